/- Lemmas for the proof. No condition. -/
import Derived.Test.YtbngfhgoeoncmaaGreatDoorTB19
set_option linter.unusedVariables false
set_option linter.unusedSimpArgs false
set_option maxRecDepth 100000
set_option maxHeartbeats 16000000
open Bool renaming and_eq_true → aD
open Go.Ending renaming returned → ah
open Go.IntKind renaming i64 → I
open Go.Value renaming agg → aB, bool → aC, int → Z, slice → aj, string → O, tuple → aF
open List renaming set_cons_succ → aJ, set_cons_zero → aI
open Nat renaming le_trans → ay, lt_or_ge → aH
namespace Go.Proofs.dw
open Go Go.RowKit Go.SW Go.Num Go.Mem Go.Proofs Go.Dec
theorem _root_.Go.Zb {G:Prop} (h:G:=by
 have H:=zh h;have H2:=zh h2;have KZ:=zh kz;have KY:=zh ky;have HE:=zh (RU hz hy);clear h h2 kz ky hz hy;cases b
 all_goals
  go_enter Rq,Rp
  go_wp2_with fail
  refine aQ [(.pure,0),(.read,1),(.pure,2),(.read,3),(.pure,5),(.read,6),(.ext,4),(.ext,7),(.fin,8)] zk zk zR zP ?_;refine zV ?_;refine aN rfl rfl (fun w1 hb1 J hJ=>?_);go_simp;have BR:=aA.later (aA.drew (aA.at2 _ _ _ _ _)) hb1;have bR:=BR.cell;have bQ:=BR.free;refine (uN _ _ z.natAbs y.natAbs _ aK aK (Nat.le_trans KZ.out zo) (Nat.le_trans KY.out zo)).mono ?_;rintro e v1 ⟨v,rfl,hc1,hv⟩;obtain ⟨Wn,lHS,XH,rfl⟩:=hv.slice;have HS:=zh hv;clear hv;replace BR:=aA.later (BR) hc1;replace bR:=BR.cell;replace bQ:=BR.free;refine hJ _ _ hc1 ?_;clear hJ J;refine aN rfl rfl (fun w2 hb2 J hJ=>?_);go_simp;replace BR:=aA.later (BR) hb2;replace bR:=BR.cell;replace bQ:=BR.free;refine (dM _ (z.natAbs+y.natAbs) _ _ aK).mono ?_;rintro e v2 ⟨v,rfl,hc2,hv⟩;obtain ⟨Wm,lHT,XG,rfl,HT⟩:=hv;replace HT:=zh HT
  replace BR:=aA.later (BR) hc2;replace bR:=BR.cell;replace bQ:=BR.free;refine hJ _ _ hc2 ?_;clear hJ J;refine bT [_] rfl (fun w5 hb5=>?_);replace BR:=aA.later (BR) hb5;replace bR:=BR.cell;replace bQ:=BR.free;go_wp2_with fail
  refine iX rfl rfl aY Co rfl zk ?_;exact ⟨_,rfl,aO,(bW.dx aK).cast HE.out⟩):G:=h
theorem EM (pa pb:Option Addr) (l m ca cb:Nat) (z y:Int) (b:Bool) (w:World) (h:aT w (aj pa l ca) z.natAbs) (h2:aT w (aj pb m cb) y.natAbs) (hz:decide (z<0)=b) (hy:decide (y<0)=b) (kz:sz 1000000000 z.natAbs≤549755813888) (ky:sz 1000000000 y.natAbs≤549755813888) :
  Calls Tryz.prog 151 #[aB #[aj pa l ca,aC b],aB #[aj pb m cb,aC b]] w (fun e w'=>∃ v,e= ah v∧Below w.heap.size w w'∧bW w' v (z+y)):=Zb
theorem _root_.Go.Za {G:Prop} (h:G:=by
 have H:=zh h;have H2:=zh h2;have KZ:=zh kz;have KY:=zh ky
 rcases Nat.lt_or_ge z.natAbs y.natAbs with hlt|hge
 ·have HE:Hid (iZ (y.natAbs - z.natAbs) (!b)=z+y):=by
   have:=JV (z:=y) (y:=z) (b:= !b) hy (by rw [hz,Bool.not_not]);rw [if_pos zo] at this;exact this.trans (Int.add_comm _ _)
  have HC:=zh (nM hlt);have HL:=zh hlt;clear h h2 kz ky hz hy hlt;cases b
  all_goals
   go_enter Rq,Rp
   go_wp2_with fail
   refine ((iT _ _ z.natAbs y.natAbs _ aK aK).mono (by rw [HC.out];exact fun _ _ h=>h)).mono ?_;rintro e v1 ⟨rfl,hc1⟩;have BR:=aA.later (aA.at2 _ _ _ _ _) hc1;have bR:=BR.cell;have bQ:=BR.free;have B1:=aA.later (aA.alloc (aA.nX _ _ _ _) _) hc1;have cB1:=B1.cell;have nW:=B1.free;have B0:=aA.later (aA.alloc (aA.alloc (aA.new _ _ _) _) _) hc1;have cB0:=B0.cell;have jc:=B0.free;go_wp2_with fail
   refine aQ [(.pure,0),(.read,1),(.pure,2),(.read,3),(.pure,5),(.read,6),(.ext,4),(.ext,7),(.fin,8)] zk zk zR zP ?_;refine zV ?_;refine aN rfl rfl (fun w2 hb2 J hJ=>?_);go_simp;replace BR:=aA.later (aA.drew BR) hb2;replace bR:=BR.cell;replace bQ:=BR.free;refine (zK _ _ y.natAbs z.natAbs _ aK aK (Nat.le_trans KY.out zo) (Nat.le_of_lt HL.out)).mono ?_;rintro e v2 ⟨v,rfl,hc2,hv⟩;obtain ⟨ZL,lHD,ae2,rfl⟩:=hv.slice;have HD:=zh hv;clear hv;replace BR:=aA.later (BR) hc2;replace bR:=BR.cell;replace bQ:=BR.free;refine hJ _ _ hc2 ?_;clear hJ J;refine aN rfl rfl (fun w3 hb3 J hJ=>?_);go_simp;replace BR:=aA.later (BR) hb3;replace bR:=BR.cell;replace bQ:=BR.free;refine (dM _ (y.natAbs - z.natAbs) _ _ aK).mono ?_;rintro e v3 ⟨v,rfl,hc3,hv⟩;obtain ⟨Wm,lHT,XG,rfl,HT⟩:=hv;replace HT:=zh HT
   replace BR:=aA.later (BR) hc3;replace bR:=BR.cell;replace bQ:=BR.free;refine hJ _ _ hc3 ?_;clear hJ J;refine bT [_] rfl (fun w5 hb5=>?_);replace BR:=aA.later (BR) hb5;replace bR:=BR.cell;replace bQ:=BR.free;go_wp2_with fail
   refine iX rfl rfl aY Co rfl zk ?_;exact ⟨_,rfl,aO,(bW.dx aK).cast HE.out⟩
 ·have HE:Hid (iZ (z.natAbs - y.natAbs) b=z+y):=by
   have:=JV (z:=z) (y:=y) (b:=b) hz hy;rw [if_pos zo] at this;exact this
  have hs:oM z.natAbs y.natAbs=0∨oM z.natAbs y.natAbs=1:=by
   rcases Nat.lt_or_ge y.natAbs z.natAbs with h2|h2
   ·exact .inr (mR h2)
   ·have:z.natAbs=y.natAbs:=by omega
    rw [this];exact .inl (ow _)
  have HL:=zh hge;clear h h2 kz ky hz hy hge
  rcases hs with hs|hs<;>cases b
  all_goals
   have HC:=zh hs;clear hs;go_enter Rq,Rp
   go_wp2_with fail
   refine ((iT _ _ z.natAbs y.natAbs _ aK aK).mono (by rw [HC.out];exact fun _ _ h=>h)).mono ?_;rintro e v1 ⟨rfl,hc1⟩;have BR:=aA.later (aA.at2 _ _ _ _ _) hc1;have bR:=BR.cell;have bQ:=BR.free;have B1:=aA.later (aA.alloc (aA.nX _ _ _ _) _) hc1;have cB1:=B1.cell;have nW:=B1.free;have B0:=aA.later (aA.alloc (aA.alloc (aA.new _ _ _) _) _) hc1;have cB0:=B0.cell;have jc:=B0.free;go_wp2_with fail
   refine aQ [(.pure,0),(.read,1),(.pure,2),(.read,3),(.pure,5),(.read,6),(.ext,4),(.ext,7),(.fin,8)] zk zk zR zP ?_;refine zV ?_;refine aN rfl rfl (fun w2 hb2 J hJ=>?_);go_simp;replace BR:=aA.later (aA.drew BR) hb2;replace bR:=BR.cell;replace bQ:=BR.free;refine (zK _ _ z.natAbs y.natAbs _ aK aK (Nat.le_trans KZ.out zo) HL.out).mono ?_;rintro e v2 ⟨v,rfl,hc2,hv⟩;obtain ⟨ZL,lHD,ae2,rfl⟩:=hv.slice;have HD:=zh hv;clear hv;replace BR:=aA.later (BR) hc2;replace bR:=BR.cell;replace bQ:=BR.free;refine hJ _ _ hc2 ?_;clear hJ J;refine aN rfl rfl (fun w3 hb3 J hJ=>?_);go_simp;replace BR:=aA.later (BR) hb3;replace bR:=BR.cell;replace bQ:=BR.free;refine (dM _ (z.natAbs - y.natAbs) _ _ aK).mono ?_;rintro e v3 ⟨v,rfl,hc3,hv⟩;obtain ⟨Wm,lHT,XG,rfl,HT⟩:=hv;replace HT:=zh HT
   replace BR:=aA.later (BR) hc3;replace bR:=BR.cell;replace bQ:=BR.free;refine hJ _ _ hc3 ?_;clear hJ J;refine bT [_] rfl (fun w5 hb5=>?_);replace BR:=aA.later (BR) hb5;replace bR:=BR.cell;replace bQ:=BR.free;go_wp2_with fail
   refine iX rfl rfl aY Co rfl zk ?_;exact ⟨_,rfl,aO,(bW.dx aK).cast HE.out⟩):G:=h
theorem EN (pa pb:Option Addr) (l m ca cb:Nat) (z y:Int) (b:Bool) (w:World) (h:aT w (aj pa l ca) z.natAbs) (h2:aT w (aj pb m cb) y.natAbs) (hz:decide (z<0)=b) (hy:decide (y<0)= !b) (kz:sz 1000000000 z.natAbs≤549755813888) (ky:sz 1000000000 y.natAbs≤549755813888) :
  Calls Tryz.prog 151 #[aB #[aj pa l ca,aC b],aB #[aj pb m cb,aC !b]] w (fun e w'=>∃ v,e= ah v∧Below w.heap.size w w'∧bW w' v (z+y)):=Za
theorem _root_.Go.Y9 {G:Prop} (h:G:=by
 obtain ⟨pa,l,ca,rfl,hm⟩:=h;obtain ⟨pb,m,cb,rfl,hm2⟩:=h2
 by_cases hb:decide (z<0)=decide (y<0)
 ·rw [hb];exact EM pa pb l m ca cb z y (decide (y<0)) w hm hm2 hb rfl kz ky
 ·have hb2:decide (y<0)= !decide (z<0):=by
   cases h1:decide (z<0)<;>cases h2:decide (y<0)<;>simp_all
  rw [hb2];exact EN pa pb l m ca cb z y (decide (z<0)) w hm hm2 rfl hb2 kz ky):G:=h
theorem yL (v u:Value) (z y:Int) (w:World) (h:bW w v z) (h2:bW w u y) (kz:sz 1000000000 z.natAbs≤549755813888) (ky:sz 1000000000 y.natAbs≤549755813888) :
  Calls Tryz.prog 151 #[v,u] w (fun e w'=>∃ v,e= ah v∧Below w.heap.size w w'∧bW w' v (z+y)):=Y9
theorem _root_.Go.Y8 {G:Prop} (h:G:=by
 obtain ⟨pa,l,ca,rfl,hm⟩:=h
 have hlen:((1+(Lib.decDigits z.natAbs).length:Nat):Int)≤9223372036854775807:=by
  have h1:=rO (eH (B:=1000000000) zo z.natAbs);rw [dh zo] at h1;unfold sz at kz;omega
 have UO:¬ 9223372036854775807<1+(Lib.decDigits z.natAbs).length:=by omega
 have H:=zh hm;have KZ:=zh kz;have HT:=zh ht;clear hm kz ht hlen
 by_cases hz:z<0
 ·have e:dX z= .string ⟨(45::Lib.decDigits z.natAbs).toArray⟩:=by unfold dX Lib.itoa;rw [if_pos hz]
  rw [e,decide_eq_true hz];clear e hz;go_enter VA,Vz
  go_wp2_with fail
  refine (lV _ z.natAbs _ aK KZ.out (HT.out.later aO)).mono ?_;rintro e v1 ⟨rfl,hc1⟩;go_wp2_with fail
  go_ret
  exact ⟨rfl,aO⟩
 ·have e:dX z= .string ⟨(Lib.decDigits z.natAbs).toArray⟩:=by unfold dX Lib.itoa;rw [if_neg hz,show z.toNat=z.natAbs by omega]
  rw [e,decide_eq_false hz];clear e hz;go_enter VA,Vz
  go_wp2_with fail
  refine (lV _ z.natAbs _ aK KZ.out (HT.out.later aO)).mono ?_;rintro e v1 ⟨rfl,hc1⟩;go_wp2_with fail
  go_ret
  exact ⟨rfl,aO⟩):G:=h
theorem xS (v:Value) (z:Int) (w:World) (h:bW w v z) (kz:sz 1000000000 z.natAbs≤1099511627776) (ht:iA.Pow w) :
  Calls Tryz.prog 154 #[v] w (fun e w'=>e= ah (dX z)∧Below w.heap.size w w'):=Y8
end Go.Proofs.dw
namespace Go.Proofs.dw
open Go Go.RowKit Go.SW Go.Num Go.Mem Go.Proofs Go.Dec Go.d9
theorem uK (v:Value) (z:Int) (w:World) (h:bW w v z) :
  Calls Tryz.prog 137 #[v] w (fun e w'=>e= ah (Z I (uh z))∧Below w.heap.size w w'):=by
 obtain ⟨BM,lH,Ce,rfl,H⟩:=h;replace H:=zh H
 rcases Int.lt_trichotomy z 0 with hz|hz|hz
 ·have e:uh z= -1:=by unfold uh;rw [if_neg zo,if_pos hz]
  rw [e,decide_eq_true hz];have h0:decide (z.natAbs=0)=false:=by simp;omega
  go_enter Tryz.func137,Tryz.ntmps137
  go_wp2_with (go_at_call 138;refine (gM _ z.natAbs _ aK).mono ?_;rintro e w1 ⟨rfl,rfl⟩;rw [h0])
  go_ret
  exact ⟨rfl,aO⟩
 ·subst hz;go_enter Tryz.func137,Tryz.ntmps137
  go_wp2_with (go_at_call 138;refine (gM _ (Int.natAbs 0) _ aK).mono ?_;rintro e w1 ⟨rfl,rfl⟩)
  go_ret
  exact ⟨rfl,aO⟩
 ·have e:uh z=1:=by unfold uh;rw [if_neg zo,if_neg zo]
  rw [e,decide_eq_false (show ¬ z<0 by omega)];have h0:decide (z.natAbs=0)=false:=by simp;omega
  go_enter Tryz.func137,Tryz.ntmps137
  go_wp2_with (go_at_call 138;refine (gM _ z.natAbs _ aK).mono ?_;rintro e w1 ⟨rfl,rfl⟩;rw [h0])
  go_ret
  exact ⟨rfl,aO⟩
theorem OM (x y:Value) (p q:Rat) (w:World) (hx:fA w x p) (hy:fA w y q) (kp:rW 1000000 p) (kq:rW 1000000 q) :
  Calls Tryz.prog 88 #[x,y] w (fun e w'=>e= ah (Z I (jk p q))∧Below w.heap.size w w'):=by
 obtain ⟨BM,lH,Ce,Rc,mH,Rj,rfl,H,Hd⟩:=hx;replace H:=zh H;replace Hd:=zh Hd;obtain ⟨Sj,lG,TN,pbG,mG,cbG,rfl,G,Gd⟩:=hy;replace G:=zh G;replace Gd:=zh Gd;rw [← ES];have k1:=lS p.num q.den;have k2:=lS q.num p.den;obtain ⟨YD,YC⟩:=kp;obtain ⟨YB,YA⟩:=kq;obtain ⟨y1,Ey1⟩:∃ y:Int,Hid (p.num*(q.den:Int)=y):=⟨_,zh rfl⟩;obtain ⟨y2,Ey2⟩:∃ y:Int,Hid (q.num*(p.den:Int)=y):=⟨_,zh rfl⟩;obtain ⟨y3,Ey3⟩:∃ y:Int,Hid (-y2=y):=⟨_,zh rfl⟩;obtain ⟨y4,Ey4⟩:∃ y:Int,Hid (y1+y3=y):=⟨_,zh rfl⟩;rw [Ey1.out,Ey2.out,Ey3.out,Ey4.out];rw [Ey1.out] at k1;rw [Ey2.out] at k2;have k3:sz 1000000000 y3.natAbs=sz 1000000000 y2.natAbs:=by rw [← Ey3.out,Int.natAbs_neg]
 have K1:Hid (sz 1000000000 y1.natAbs≤549755813888):=by unfold Hid;omega
 have K3:Hid (sz 1000000000 y3.natAbs≤549755813888):=by unfold Hid;omega
 have KP1:=zh YD;have KP2:=zh YC;have KQ1:=zh YB;have KQ2:=zh YA;clear YD YC YB YA k1 k2 k3;go_enter Tryz.func88,Tryz.ntmps88
 go_wp2_with fail
 refine aQ [(.pure,0),(.read,1),(.pure,2),(.read,3),(.pure,5),(.read,6),(.pure,7),(.read,8),(.ext,4),(.ext,9),(.ext,10),(.ext,11),(.ext,12),(.fin,13)] zk zk zR zP ?_;refine zV ?_;refine aN rfl rfl (fun w1 hb1 J hJ=>?_);go_simp;refine ((lU _ _ p.num q.den _ (bW.dx aK) aK (ay KP1.out zo) (ay KQ2.out zo)).mono (by rw [Ey1.out];exact fun _ _ h=>h)).mono ?_;rintro e v1 ⟨v,rfl,hc1,hv⟩;obtain ⟨au7,lHA,az5,rfl,HA⟩:=hv;replace HA:=zh HA;refine hJ _ _ hc1 ?_;clear hJ J;refine aN rfl rfl (fun w2 hb2 J hJ=>?_);go_simp;refine ((lU _ _ q.num p.den _ (bW.dx aK) aK (ay KQ1.out zo) (ay KP2.out zo)).mono (by rw [Ey2.out];exact fun _ _ h=>h)).mono ?_;rintro e v2 ⟨v,rfl,hc2,hv⟩;obtain ⟨au6,lHB,az4,rfl,HB⟩:=hv;replace HB:=zh HB;refine hJ _ _ hc2 ?_;clear hJ J
 refine aN rfl rfl (fun w3 hb3 J hJ=>?_);go_simp;refine ((wJ _ y2 _ (bW.dx aK)).mono (by rw [Ey3.out];exact fun _ _ h=>h)).mono ?_;rintro e v3 ⟨v,rfl,hc3,hv⟩;obtain ⟨ai9,lHC,an5,rfl,HC⟩:=hv;replace HC:=zh HC;refine hJ _ _ hc3 ?_;clear hJ J;refine aN rfl rfl (fun w4 hb4 J hJ=>?_);go_simp;refine ((yL _ _ y1 y3 _ (bW.dx aK) (bW.dx aK) K1.out K3.out).mono (by rw [Ey4.out];exact fun _ _ h=>h)).mono ?_;rintro e v4 ⟨v,rfl,hc4,hv⟩;obtain ⟨ZL,lHD,ae2,rfl,HD⟩:=hv;replace HD:=zh HD;refine hJ _ _ hc4 ?_;clear hJ J;refine aN rfl rfl (fun w5 hb5 J hJ=>?_);go_simp;refine (uK _ y4 _ (bW.dx aK)).mono ?_;rintro e v5 ⟨rfl,kK⟩;refine hJ _ _ kK ?_;clear hJ J;refine bT [_] rfl (fun w5 hb5=>?_);go_wp2_with fail
 go_ret
 exact ⟨rfl,aO⟩
theorem Iu (x y:Value) (n:Int) (d:Nat) (w:World) (hx:bW w x n) (hy:aT w y d) (hd:0<d) (kn:sz 1000000000 n.natAbs≤549755813888) (kd:sz 1000000000 d≤549755813888) :
  Calls Tryz.prog 148 #[x,y] w (fun e w'=>∃ v,e= ah v∧Below w.heap.size w w'∧fA w' v (mkRat n d)):=by
 obtain ⟨BM,lH,Ce,rfl,H⟩:=hx;replace H:=zh H;obtain ⟨Sj,lG,TN,rfl⟩:=hy.slice;have G:=zh hy;clear hy;have HP:=zh (rE n hd);have hg:0<n.natAbs.gcd d:=Nat.gcd_pos_of_pos_right _ hd;obtain ⟨g,Eg⟩:∃ y:Nat,Hid (n.natAbs.gcd d=y):=⟨_,zh rfl⟩;obtain ⟨a,Ea⟩:∃ y:Nat,Hid (n.natAbs / g=y):=⟨_,zh rfl⟩;obtain ⟨b,Eb⟩:∃ y:Nat,Hid (d / g=y):=⟨_,zh rfl⟩;rw [Eg.out] at HP hg;rw [Ea.out,Eb.out] at HP;have KN:=zh kn;have KD:=zh kd;have HG:=zh hg;clear kn kd hg hd;go_enter Tryz.func148,Tryz.ntmps148
 go_wp2_with fail
 refine ((mV _ _ n.natAbs d _ aK aK KN.out KD.out).mono (by rw [Eg.out];exact fun _ _ h=>h)).mono ?_;rintro e v1 ⟨v,rfl,hc1,hv⟩;obtain ⟨OH,ZW,Qx,rfl⟩:=hv.slice;have Hg:=zh hv;clear hv;have BR:=aA.later (aA.nX _ _ _ _) hc1;have bR:=BR.cell;have bQ:=BR.free;have B0:=aA.later (aA.alloc (aA.new _ _ _) _) hc1;have cB0:=B0.cell;have jc:=B0.free;go_wp2_with fail
 refine ((dG _ _ n.natAbs g _ aK aK HG.out KN.out).mono (by rw [Ea.out];exact fun _ _ h=>h)).mono ?_;rintro e v2 ⟨v,vr,rfl,hc2,hv,ji⟩;obtain ⟨ZK,lHa,ae1,rfl⟩:=hv.slice;have Ha:=zh hv;clear hv;obtain ⟨aq0,aw2,ar4,rfl⟩:=ji.slice;have Har:=zh ji;clear ji;replace BR:=aA.later (BR) hc2;replace bR:=BR.cell;replace bQ:=BR.free;replace B0:=aA.later (B0) hc2;replace cB0:=B0.cell;replace jc:=B0.free;go_wp2_with fail
 refine ((dG _ _ d g _ aK aK HG.out KD.out).mono (by rw [Eb.out];exact fun _ _ h=>h)).mono ?_;rintro e v3 ⟨v,vr,rfl,hc3,hv,ji⟩;obtain ⟨Si,lHb,TM,rfl⟩:=hv.slice;have Hb:=zh hv;clear hv;obtain ⟨OI,WE,Qy,rfl⟩:=ji.slice;have Hbr:=zh ji;clear ji;replace BR:=aA.later (BR) hc3;replace bR:=BR.cell;replace bQ:=BR.free;replace B0:=aA.later (B0) hc3;replace cB0:=B0.cell;replace jc:=B0.free;go_wp2_with fail
 refine (dM _ a _ _ aK).mono ?_;rintro e v4 ⟨v,rfl,hc4,hv⟩;obtain ⟨xG,Nw,xQ,rfl,Hs⟩:=hv;replace Hs:=zh Hs;replace BR:=aA.later (BR) hc4;replace bR:=BR.cell;replace bQ:=BR.free;replace B0:=aA.later (B0) hc4;replace cB0:=B0.cell;replace jc:=B0.free;go_wp2_with fail
 refine iX rfl rfl aY Tryz.underlying88 rfl zk ?_;exact ⟨_,rfl,aO,fA.mk (iZ a (decide (n<0))).natAbs b aK aK (by rw [HP.out.1]) HP.out.2.symm (by rw [HP.out.1])⟩
theorem jo (v:Value) (q:Rat) (w:World) (h:fA w v q) (k:rW 1000000 q) (ht:iA.Pow w) :
  Calls Tryz.prog 89 #[v] w (fun e w'=>e= ah (Fr.res (wr q))∧Below w.heap.size w w'):=by
 obtain ⟨BM,lH,Ce,Rc,mH,Rj,rfl,H,Hd⟩:=h;replace H:=zh H;replace Hd:=zh Hd;have HT:=zh ht;have K1:=zh k.1;have K2:=zh k.2;clear ht k
 rcases aH 600 (Lib.decDigits q.num.natAbs).length with h1|h1
 ·rw [qQ (by unfold iG;rw [zB h1];rfl)];go_enter Tryz.func89,Tryz.ntmps89
  go_wp2_with fail
  refine (gW _ q.num.natAbs _ aK (ay K1.out zo) (HT.out.later aO)).mono ?_;rintro e v1 ⟨rfl,hc1⟩;have BR:=aA.later (aA.nX _ _ _ _) hc1;have bR:=BR.cell;have bQ:=BR.free;have B0:=aA.later (aA.alloc (aA.new _ _ _) _) hc1;have cB0:=B0.cell;have jc:=B0.free;go_wp2_with fail
  refine bE rfl rfl aY Tryz.underlying38 rfl zk ?_;exact ⟨rfl,aO⟩
 ·rcases aH 600 (Lib.decDigits q.den).length with h2|h2
  ·rw [qQ (by unfold iG;rw [zB h2,Bool.and_false])];go_enter Tryz.func89,Tryz.ntmps89
   go_wp2_with fail
   refine (gW _ q.num.natAbs _ aK (ay K1.out zo) (HT.out.later aO)).mono ?_;rintro e v1 ⟨rfl,hc1⟩;have BR:=aA.later (aA.nX _ _ _ _) hc1;have bR:=BR.cell;have bQ:=BR.free;have B0:=aA.later (aA.alloc (aA.new _ _ _) _) hc1;have cB0:=B0.cell;have jc:=B0.free;go_wp2_with fail
   refine (gW _ q.den _ aK (ay K2.out zo) (HT.out.later aO)).mono ?_;rintro e v2 ⟨rfl,hc2⟩;replace BR:=aA.later (BR) hc2;replace bR:=BR.cell;replace bQ:=BR.free;replace B0:=aA.later (B0) hc2;replace cB0:=B0.cell;replace jc:=B0.free;go_wp2_with fail
   refine bE rfl rfl aY Tryz.underlying38 rfl zk ?_;exact ⟨rfl,aO⟩
  ·rw [NJ (by unfold iG;rw [eZ.2 h1,eZ.2 h2];rfl)];go_enter Tryz.func89,Tryz.ntmps89
   go_wp2_with fail
   refine (gW _ q.num.natAbs _ aK (ay K1.out zo) (HT.out.later aO)).mono ?_;rintro e v1 ⟨rfl,hc1⟩;have BR:=aA.later (aA.nX _ _ _ _) hc1;have bR:=BR.cell;have bQ:=BR.free;have B0:=aA.later (aA.alloc (aA.new _ _ _) _) hc1;have cB0:=B0.cell;have jc:=B0.free;go_wp2_with fail
   refine (gW _ q.den _ aK (ay K2.out zo) (HT.out.later aO)).mono ?_;rintro e v2 ⟨rfl,hc2⟩;replace BR:=aA.later (BR) hc2;replace bR:=BR.cell;replace bQ:=BR.free;replace B0:=aA.later (B0) hc2;replace cB0:=B0.cell;replace jc:=B0.free;go_wp2_with fail
   refine aQ [(.pure,0),(.read,1),(.pure,3),(.read,4),(.ext,2),(.ext,5),(.pure,6),(.fin,7),(.fin,8)] zk zk zR zP ?_;refine zV ?_;refine aN rfl rfl (fun w3 hb3 J hJ=>?_);go_simp;replace BR:=aA.later (aA.drew BR) hb3;replace bR:=BR.cell;replace bQ:=BR.free;refine ((xS _ q.num _ (bW.dx aK) (ay K1.out zo) (HT.out.later aO)).mono (fun _ _ h=>by unfold dX at h;exact h)).mono ?_;rintro e v3 ⟨rfl,hc3⟩;replace BR:=aA.later (BR) hc3;replace bR:=BR.cell;replace bQ:=BR.free;refine hJ _ _ hc3 ?_;clear hJ J;refine aN rfl rfl (fun w4 hb4 J hJ=>?_);go_simp;replace BR:=aA.later (BR) hb4;replace bR:=BR.cell;replace bQ:=BR.free;refine (lV _ q.den _ aK (ay K2.out zo) (HT.out.later aO)).mono ?_;rintro e v4 ⟨rfl,hc4⟩;replace BR:=aA.later (BR) hc4;replace bR:=BR.cell;replace bQ:=BR.free;refine hJ _ _ hc4 ?_;clear hJ J
   refine zV ?_;refine bT [_,_] rfl (fun w5 hb5=>?_);replace BR:=aA.later (BR) hb5;replace bR:=BR.cell;replace bQ:=BR.free;go_wp2_with fail
   refine bE rfl rfl aY Tryz.underlying38 rfl zk ?_;exact ⟨rfl,aO⟩
def He (w:World) (q:Rat) (e:Ending) (w':World):Prop:=∃ v,e= ah (aF #[v,aC true])∧Below w.heap.size w w'∧fA w' v q
def pO (w:World) (e:Ending) (w':World):Prop:=e= ah (aF #[aB #[aj none 0 0,aC false,aj none 0 0],aC false])∧Below w.heap.size w w'
theorem jQ {s:ByteArray} {z:Int} (h:Dec.whole s.data.toList=some z) (w:World):Calls Tryz.prog 146 #[O s] w (fun e w'=>e= ah (Z I 0)∧Below w.heap.size w w'):=by
 have:=whole.gQ s w;rw [h] at this;exact this
theorem Ar {s:ByteArray} (h:Dec.whole s.data.toList=none) (w:World):Calls Tryz.prog 146 #[O s] w (fun e w'=>e= ah (Z I 10)∧Below w.heap.size w w'):=by
 have:=whole.gQ s w;rw [h] at this;exact this
theorem Iw (s t:ByteArray) (h:Dec.whole s.data.toList=none) (w:World) :
  Calls Tryz.prog 90 #[aB #[O s,O t]] w (pO w):=by
 have HC:=zh (Ar h);clear h;go_enter Tryz.func90,Tryz.ntmps90
 go_wp2_with fail
 refine (HC.out _).mono ?_;rintro e v1 ⟨rfl,hc1⟩;have BR:=aA.later (aA.nX _ _ _ _) hc1;have bR:=BR.cell;have bQ:=BR.free;have B0:=aA.later (aA.alloc (aA.new _ _ _) _) hc1;have cB0:=B0.cell;have jc:=B0.free;go_wp2_with fail
 refine bE rfl rfl aY Tryz.underlying88 rfl zk ?_;exact ⟨rfl,aO⟩
theorem Iy (s t:ByteArray) (n:Int) (hn:Dec.whole s.data.toList=some n) (h:Dec.whole t.data.toList=none) (w:World) :
  Calls Tryz.prog 90 #[aB #[O s,O t]] w (pO w):=by
 have HC:=zh (jQ hn);have HD:=zh (Ar h);clear h hn;go_enter Tryz.func90,Tryz.ntmps90
 go_wp2_with fail
 refine (HC.out _).mono ?_;rintro e v1 ⟨rfl,hc1⟩;have BR:=aA.later (aA.nX _ _ _ _) hc1;have bR:=BR.cell;have bQ:=BR.free;have B0:=aA.later (aA.alloc (aA.new _ _ _) _) hc1;have cB0:=B0.cell;have jc:=B0.free;go_wp2_with fail
 refine (HD.out _).mono ?_;rintro e v2 ⟨rfl,hc2⟩;replace BR:=aA.later (BR) hc2;replace bR:=BR.cell;replace bQ:=BR.free;replace B0:=aA.later (B0) hc2;replace cB0:=B0.cell;replace jc:=B0.free;go_wp2_with fail
 refine bE rfl rfl aY Tryz.underlying88 rfl zk ?_;exact ⟨rfl,aO⟩
theorem LK (q:Rat) (hq:iG q=true) (w:World) :
  Calls Tryz.prog 90 #[(Fr.of q).v] w (He w q):=by
 show Calls _ _ #[aB #[O ⟨(Lib.itoa q.num).toArray⟩,O ⟨(Lib.itoa (q.den:Int)).toArray⟩]] _ _
 have hs:=jH hq
 have hl:(Lib.decDigits q.num.natAbs).length≤600∧(Lib.decDigits ((q.den:Nat):Int).natAbs).length≤600:=by
  unfold iG at hq;rw [aD,eZ,eZ] at hq;exact ⟨hq.1,(Int.natAbs_natCast q.den).symm ▸ hq.2⟩
 obtain ⟨hl1,hl2⟩:=hl;have hd:=q.den_pos;have hr:=q.reduced;have HC:=zh (jQ (s:=⟨(Lib.itoa q.num).toArray⟩) (eT hl1));have HD:=zh (jQ (s:=⟨(Lib.itoa (q.den:Int)).toArray⟩) (eT hl2));have Rn:=zh hl1;have HL2:=zh hl2;have HR:=zh hr;have S1:=zh hs.1;have S2:=zh hs.2;obtain ⟨d,Ed⟩:∃ y:Int,Hid ((q.den:Int)=y):=⟨_,zh rfl⟩;have hdn:d.natAbs=q.den:=by rw [← Ed.out,Int.natAbs_natCast]
 have hd1:0<d:=by rw [← Ed.out];omega
 have hsg:uh d=1:=by unfold uh;rw [if_neg zo,if_neg zo]
 have hdf:decide (d<0)=false:=by simp;omega
 have HDN:=zh hdn;have Lb:=zh hsg;have HDF:=zh hdf;have HR1:Hid (q.num.natAbs.gcd d.natAbs=1):=by unfold Hid;rw [hdn];exact hr
 rw [Ed.out] at HL2 HD ⊢;clear hq hs hl1 hl2 hr hd hdn hd1 hsg hdf;go_enter Tryz.func90,Tryz.ntmps90
 go_wp2_with fail
 refine (HC.out _).mono ?_;rintro e v1 ⟨rfl,hc1⟩;have BR:=aA.later (aA.nX _ _ _ _) hc1;have bR:=BR.cell;have bQ:=BR.free;have B0:=aA.later (aA.alloc (aA.new _ _ _) _) hc1;have cB0:=B0.cell;have jc:=B0.free;go_wp2_with fail
 refine (HD.out _).mono ?_;rintro e v2 ⟨rfl,hc2⟩;replace BR:=aA.later (BR) hc2;replace bR:=BR.cell;replace bQ:=BR.free;replace B0:=aA.later (B0) hc2;replace cB0:=B0.cell;replace jc:=B0.free;go_wp2_with fail
 refine aQ [(.pure,0),(.read,1),(.pure,3),(.read,4),(.ext,2),(.ext,5),(.alloc #[aj none 0 0,aC false] 86,6),(.alloc #[aj none 0 0,aC false] 86,7),(.fin,8),(.fin,9)] zk zk zR zP ?_;refine zV ?_;refine aN rfl rfl (fun w3 hb3 J hJ=>?_);go_simp;replace BR:=aA.later (aA.drew BR) hb3;replace bR:=BR.cell;replace bQ:=BR.free;replace B0:=aA.later (aA.drew B0) hb3;replace cB0:=B0.cell;replace jc:=B0.free;refine (gU q.num Rn.out _).mono ?_;rintro e v3 ⟨v,rfl,hc3,hv⟩;obtain ⟨L6,Yy,MZ,rfl,HN⟩:=hv;replace HN:=zh HN;replace BR:=aA.later (BR) hc3;replace bR:=BR.cell;replace bQ:=BR.free;replace B0:=aA.later (B0) hc3;replace cB0:=B0.cell;replace jc:=B0.free;refine hJ _ _ hc3 ?_;clear hJ J;refine aN rfl rfl (fun w4 hb4 J hJ=>?_);go_simp;replace BR:=aA.later (BR) hb4;replace bR:=BR.cell;replace bQ:=BR.free
 replace B0:=aA.later (B0) hb4;replace cB0:=B0.cell;replace jc:=B0.free;refine (gU d HL2.out _).mono ?_;rintro e v4 ⟨v,rfl,hc4,hv⟩;obtain ⟨L8,Yz,M0,rfl,HM⟩:=hv;replace HM:=zh HM;replace BR:=aA.later (BR) hc4;replace bR:=BR.cell;replace bQ:=BR.free;replace B0:=aA.later (B0) hc4;replace cB0:=B0.cell;replace jc:=B0.free;refine hJ _ _ hc4 ?_;clear hJ J;refine fE rfl (fun b1 w5 UL Jc PI Xa dN=>?_);go_simp;replace dN:aA _ _ _ _:=dN;have WZ:w.heap.size≤b1:=(by first|omega|exact ay (Below.size (B:=w.heap.size) aO) Jc);replace BR:=aA.later (BR) UL;replace bR:=BR.cell;replace bQ:=BR.free;refine fE rfl (fun b2 w6 Py PW UN PY iQ=>?_);go_simp;replace iQ:aA _ _ _ _:=iQ;have ac0:w.heap.size≤b2:=(by first|omega|exact ay (Below.size (B:=w.heap.size) aO) PW)
 replace BR:=aA.later (BR) Py;replace bR:=BR.cell;replace bQ:=BR.free;replace dN:=aA.later (dN) Py;replace nS:=dN.cell;replace nR:=dN.free;refine bT [_,_] rfl (fun w7 mJ=>?_);replace BR:=aA.later (BR) mJ;replace bR:=BR.cell;replace bQ:=BR.free;replace dN:=aA.later (dN) mJ;replace nS:=dN.cell;replace nR:=dN.free;replace iQ:=aA.later (iQ) mJ;replace Aq:=iQ.cell;replace Ad:=iQ.free;have n1:b1≠b2:=fun e=>PY (by simp [e]);have n2:b2≠b1:=fun e=>n1 e.symm;have n3:=BR.ne dN zd;have n4:=BR.ne iQ zd;go_wp2_with fail
 refine ((uK _ d _ (bW.dx aK)).mono (by rw [Lb.out];exact fun _ _ h=>h)).mono ?_;rintro e v5 ⟨rfl,kK⟩;replace HN:=zh (aT.carry HN.out aK kK);replace HM:=zh (aT.carry HM.out aK kK);replace dN:aA _ (b1) _ _:=aA.later aY kK;(try simp only [List.setIfInBounds_toArray,aI,aJ] at dN);replace nS:=dN.cell;replace nR:=dN.free;replace iQ:aA _ (b2) _ _:=aA.later aY kK;(try simp only [List.setIfInBounds_toArray,aI,aJ] at iQ);replace Aq:=iQ.cell;replace Ad:=iQ.free;replace BR:aA _ (w.heap.size+1) _ _:=aA.later aY kK;(try simp only [List.setIfInBounds_toArray,aI,aJ] at BR);replace bR:=BR.cell;replace bQ:=BR.free;go_wp2_with fail
 refine ((mV _ _ q.num.natAbs d.natAbs _ aK aK (ay S1.out zo) (by rw [HDN.out];exact ay S2.out zo)).mono (by rw [HR1.out];exact fun _ _ h=>h)).mono ?_;rintro e v6 ⟨v,rfl,hc6,hv⟩;obtain ⟨ai8,lHG,an4,rfl⟩:=hv.slice;have HG:=zh hv;clear hv;replace HN:=zh (aT.later HN.out hc6);replace HM:=zh (aT.later HM.out hc6);replace dN:=aA.later (dN) hc6;replace nS:=dN.cell;replace nR:=dN.free;replace iQ:=aA.later (iQ) hc6;replace Aq:=iQ.cell;replace Ad:=iQ.free;replace BR:=aA.later (BR) hc6;replace bR:=BR.cell;replace bQ:=BR.free;go_wp2_with fail
 refine ((iT _ _ 1 1 _ aK (aT.lit zo zo)).mono (by rw [ow];exact fun _ _ h=>h)).mono ?_;rintro e v7 ⟨rfl,AX⟩;replace HN:=zh (aT.carry HN.out aK AX);replace HM:=zh (aT.carry HM.out aK AX);replace dN:aA _ (b1) _ _:=aA.later aY AX;(try simp only [List.setIfInBounds_toArray,aI,aJ] at dN);replace nS:=dN.cell;replace nR:=dN.free;replace iQ:aA _ (b2) _ _:=aA.later aY AX;(try simp only [List.setIfInBounds_toArray,aI,aJ] at iQ);replace Aq:=iQ.cell;replace Ad:=iQ.free;replace BR:aA _ (w.heap.size+1) _ _:=aA.later aY AX;(try simp only [List.setIfInBounds_toArray,aI,aJ] at BR);replace bR:=BR.cell;replace bQ:=BR.free;go_wp2_with fail
 refine bE rfl rfl aY Tryz.underlying88 rfl zk ?_;refine ⟨_,rfl,aO,fA.mk q.num.natAbs d.natAbs aK aK rfl HDN.out rfl⟩
theorem Bd (n d:Int) (hl1:(Lib.decDigits n.natAbs).length≤600) (hl2:(Lib.decDigits d.natAbs).length≤600) (hd:d≤0) (w:World) :
  Calls Tryz.prog 90 #[aB #[O ⟨(Lib.itoa n).toArray⟩,O ⟨(Lib.itoa d).toArray⟩]] w (pO w):=by
 have HC:=zh (jQ (s:=⟨(Lib.itoa n).toArray⟩) (eT hl1));have HD:=zh (jQ (s:=⟨(Lib.itoa d).toArray⟩) (eT hl2));have Rn:=zh hl1;have HL2:=zh hl2
 have hs:uh d=0∨uh d= -1:=by
  unfold uh
  by_cases h:d=0
  ·rw [if_pos h];exact .inl rfl
  ·rw [if_neg h,if_pos zo];exact .inr rfl
 clear hl1 hl2 hd
 rcases hs with hs|hs
 all_goals
  have Lb:=zh hs;clear hs;go_enter Tryz.func90,Tryz.ntmps90
  go_wp2_with fail
  refine (HC.out _).mono ?_;rintro e v1 ⟨rfl,hc1⟩;have BR:=aA.later (aA.nX _ _ _ _) hc1;have bR:=BR.cell;have bQ:=BR.free;have B0:=aA.later (aA.alloc (aA.new _ _ _) _) hc1;have cB0:=B0.cell;have jc:=B0.free;go_wp2_with fail
  refine (HD.out _).mono ?_;rintro e v2 ⟨rfl,hc2⟩;replace BR:=aA.later (BR) hc2;replace bR:=BR.cell;replace bQ:=BR.free;replace B0:=aA.later (B0) hc2;replace cB0:=B0.cell;replace jc:=B0.free;go_wp2_with fail
  refine aQ [(.pure,0),(.read,1),(.pure,3),(.read,4),(.ext,2),(.ext,5),(.alloc #[aj none 0 0,aC false] 86,6),(.alloc #[aj none 0 0,aC false] 86,7),(.fin,8),(.fin,9)] zk zk zR zP ?_;refine zV ?_;refine aN rfl rfl (fun w3 hb3 J hJ=>?_);go_simp;replace BR:=aA.later (aA.drew BR) hb3;replace bR:=BR.cell;replace bQ:=BR.free;replace B0:=aA.later (aA.drew B0) hb3;replace cB0:=B0.cell;replace jc:=B0.free;refine (gU n Rn.out _).mono ?_;rintro e v3 ⟨v,rfl,hc3,hv⟩;obtain ⟨L6,Yy,MZ,rfl,HN⟩:=hv;replace HN:=zh HN;replace BR:=aA.later (BR) hc3;replace bR:=BR.cell;replace bQ:=BR.free;replace B0:=aA.later (B0) hc3;replace cB0:=B0.cell;replace jc:=B0.free;refine hJ _ _ hc3 ?_;clear hJ J;refine aN rfl rfl (fun w4 hb4 J hJ=>?_);go_simp;replace BR:=aA.later (BR) hb4;replace bR:=BR.cell;replace bQ:=BR.free
  replace B0:=aA.later (B0) hb4;replace cB0:=B0.cell;replace jc:=B0.free;refine (gU d HL2.out _).mono ?_;rintro e v4 ⟨v,rfl,hc4,hv⟩;obtain ⟨L8,Yz,M0,rfl,HM⟩:=hv;replace HM:=zh HM;replace BR:=aA.later (BR) hc4;replace bR:=BR.cell;replace bQ:=BR.free;replace B0:=aA.later (B0) hc4;replace cB0:=B0.cell;replace jc:=B0.free;refine hJ _ _ hc4 ?_;clear hJ J;refine fE rfl (fun b1 w5 UL Jc PI Xa dN=>?_);go_simp;replace dN:aA _ _ _ _:=dN;have WZ:w.heap.size≤b1:=(by first|omega|exact ay (Below.size (B:=w.heap.size) aO) Jc);replace BR:=aA.later (BR) UL;replace bR:=BR.cell;replace bQ:=BR.free;refine fE rfl (fun b2 w6 Py PW UN PY iQ=>?_);go_simp;replace iQ:aA _ _ _ _:=iQ;have ac0:w.heap.size≤b2:=(by first|omega|exact ay (Below.size (B:=w.heap.size) aO) PW)
  replace BR:=aA.later (BR) Py;replace bR:=BR.cell;replace bQ:=BR.free;replace dN:=aA.later (dN) Py;replace nS:=dN.cell;replace nR:=dN.free;refine bT [_,_] rfl (fun w7 mJ=>?_);replace BR:=aA.later (BR) mJ;replace bR:=BR.cell;replace bQ:=BR.free;replace dN:=aA.later (dN) mJ;replace nS:=dN.cell;replace nR:=dN.free;replace iQ:=aA.later (iQ) mJ;replace Aq:=iQ.cell;replace Ad:=iQ.free;have n1:b1≠b2:=fun e=>PY (by simp [e]);have n2:b2≠b1:=fun e=>n1 e.symm;have n3:=BR.ne dN zd;have n4:=BR.ne iQ zd;go_wp2_with fail
  refine ((uK _ d _ (bW.dx aK)).mono (by rw [Lb.out];exact fun _ _ h=>h)).mono ?_;rintro e v5 ⟨rfl,kK⟩;replace BR:aA _ (w.heap.size+1) _ _:=aA.later aY kK;(try simp only [List.setIfInBounds_toArray,aI,aJ] at BR);replace bR:=BR.cell;replace bQ:=BR.free;go_wp2_with fail
  refine bE rfl rfl aY Tryz.underlying88 rfl zk ?_;exact ⟨rfl,aO⟩
theorem Ip {g:Nat} (h:g≠1):oM g 1= -1∨oM g 1=1:=by
 unfold oM
 by_cases h2:g<1
 ·rw [if_pos h2];exact .inl rfl
 ·rw [if_neg h2,if_pos zo];exact .inr rfl
theorem CJ (n d:Int) (hl1:(Lib.decDigits n.natAbs).length≤600) (hl2:(Lib.decDigits d.natAbs).length≤600) (hd:0<d) (hg:n.natAbs.gcd d.natAbs≠1) (w:World) :
  Calls Tryz.prog 90 #[aB #[O ⟨(Lib.itoa n).toArray⟩,O ⟨(Lib.itoa d).toArray⟩]] w (pO w):=by
 have HC:=zh (jQ (s:=⟨(Lib.itoa n).toArray⟩) (eT hl1));have HD:=zh (jQ (s:=⟨(Lib.itoa d).toArray⟩) (eT hl2));have Rn:=zh hl1;have HL2:=zh hl2;have S1:=zh (kW (eZ.2 hl1));have S2:=zh (kW (eZ.2 hl2));have hsg:uh d=1:=by unfold uh;rw [if_neg zo,if_neg zo]
 have hdf:decide (d<0)=false:=by simp;omega
 have Lb:=zh hsg;have hs:=Ip hg;obtain ⟨g,Eg⟩:∃ y:Nat,Hid (n.natAbs.gcd d.natAbs=y):=⟨_,zh rfl⟩;rw [Eg.out] at hs;clear hl1 hl2 hd hg hsg hdf
 rcases hs with hs|hs
 all_goals
  have HS:=zh hs;clear hs;go_enter Tryz.func90,Tryz.ntmps90
  go_wp2_with fail
  refine (HC.out _).mono ?_;rintro e v1 ⟨rfl,hc1⟩;have BR:=aA.later (aA.nX _ _ _ _) hc1;have bR:=BR.cell;have bQ:=BR.free;have B0:=aA.later (aA.alloc (aA.new _ _ _) _) hc1;have cB0:=B0.cell;have jc:=B0.free;go_wp2_with fail
  refine (HD.out _).mono ?_;rintro e v2 ⟨rfl,hc2⟩;replace BR:=aA.later (BR) hc2;replace bR:=BR.cell;replace bQ:=BR.free;replace B0:=aA.later (B0) hc2;replace cB0:=B0.cell;replace jc:=B0.free;go_wp2_with fail
  refine aQ [(.pure,0),(.read,1),(.pure,3),(.read,4),(.ext,2),(.ext,5),(.alloc #[aj none 0 0,aC false] 86,6),(.alloc #[aj none 0 0,aC false] 86,7),(.fin,8),(.fin,9)] zk zk zR zP ?_;refine zV ?_;refine aN rfl rfl (fun w3 hb3 J hJ=>?_);go_simp;replace BR:=aA.later (aA.drew BR) hb3;replace bR:=BR.cell;replace bQ:=BR.free;replace B0:=aA.later (aA.drew B0) hb3;replace cB0:=B0.cell;replace jc:=B0.free;refine (gU n Rn.out _).mono ?_;rintro e v3 ⟨v,rfl,hc3,hv⟩;obtain ⟨L6,Yy,MZ,rfl,HN⟩:=hv;replace HN:=zh HN;replace BR:=aA.later (BR) hc3;replace bR:=BR.cell;replace bQ:=BR.free;replace B0:=aA.later (B0) hc3;replace cB0:=B0.cell;replace jc:=B0.free;refine hJ _ _ hc3 ?_;clear hJ J;refine aN rfl rfl (fun w4 hb4 J hJ=>?_);go_simp;replace BR:=aA.later (BR) hb4;replace bR:=BR.cell;replace bQ:=BR.free
  replace B0:=aA.later (B0) hb4;replace cB0:=B0.cell;replace jc:=B0.free;refine (gU d HL2.out _).mono ?_;rintro e v4 ⟨v,rfl,hc4,hv⟩;obtain ⟨L8,Yz,M0,rfl,HM⟩:=hv;replace HM:=zh HM;replace BR:=aA.later (BR) hc4;replace bR:=BR.cell;replace bQ:=BR.free;replace B0:=aA.later (B0) hc4;replace cB0:=B0.cell;replace jc:=B0.free;refine hJ _ _ hc4 ?_;clear hJ J;refine fE rfl (fun b1 w5 UL Jc PI Xa dN=>?_);go_simp;replace dN:aA _ _ _ _:=dN;have WZ:w.heap.size≤b1:=(by first|omega|exact ay (Below.size (B:=w.heap.size) aO) Jc);replace BR:=aA.later (BR) UL;replace bR:=BR.cell;replace bQ:=BR.free;refine fE rfl (fun b2 w6 Py PW UN PY iQ=>?_);go_simp;replace iQ:aA _ _ _ _:=iQ;have ac0:w.heap.size≤b2:=(by first|omega|exact ay (Below.size (B:=w.heap.size) aO) PW)
  replace BR:=aA.later (BR) Py;replace bR:=BR.cell;replace bQ:=BR.free;replace dN:=aA.later (dN) Py;replace nS:=dN.cell;replace nR:=dN.free;refine bT [_,_] rfl (fun w7 mJ=>?_);replace BR:=aA.later (BR) mJ;replace bR:=BR.cell;replace bQ:=BR.free;replace dN:=aA.later (dN) mJ;replace nS:=dN.cell;replace nR:=dN.free;replace iQ:=aA.later (iQ) mJ;replace Aq:=iQ.cell;replace Ad:=iQ.free;have n1:b1≠b2:=fun e=>PY (by simp [e]);have n2:b2≠b1:=fun e=>n1 e.symm;have n3:=BR.ne dN zd;have n4:=BR.ne iQ zd;go_wp2_with fail
  refine ((uK _ d _ (bW.dx aK)).mono (by rw [Lb.out];exact fun _ _ h=>h)).mono ?_;rintro e v5 ⟨rfl,kK⟩;replace HN:=zh (aT.carry HN.out aK kK);replace HM:=zh (aT.carry HM.out aK kK);replace dN:aA _ (b1) _ _:=aA.later aY kK;(try simp only [List.setIfInBounds_toArray,aI,aJ] at dN);replace nS:=dN.cell;replace nR:=dN.free;replace iQ:aA _ (b2) _ _:=aA.later aY kK;(try simp only [List.setIfInBounds_toArray,aI,aJ] at iQ);replace Aq:=iQ.cell;replace Ad:=iQ.free;replace BR:aA _ (w.heap.size+1) _ _:=aA.later aY kK;(try simp only [List.setIfInBounds_toArray,aI,aJ] at BR);replace bR:=BR.cell;replace bQ:=BR.free;go_wp2_with fail
  refine ((mV _ _ n.natAbs d.natAbs _ aK aK (ay S1.out zo) (ay S2.out zo)).mono (by rw [Eg.out];exact fun _ _ h=>h)).mono ?_;rintro e v6 ⟨v,rfl,hc6,hv⟩;obtain ⟨ai8,lHG,an4,rfl⟩:=hv.slice;have HG:=zh hv;clear hv;replace HN:=zh (aT.later HN.out hc6);replace HM:=zh (aT.later HM.out hc6);replace dN:=aA.later (dN) hc6;replace nS:=dN.cell;replace nR:=dN.free;replace iQ:=aA.later (iQ) hc6;replace Aq:=iQ.cell;replace Ad:=iQ.free;replace BR:=aA.later (BR) hc6;replace bR:=BR.cell;replace bQ:=BR.free;go_wp2_with fail
  refine ((iT _ _ g 1 _ aK (aT.lit zo zo)).mono (by rw [HS.out];exact fun _ _ h=>h)).mono ?_;rintro e v7 ⟨rfl,AX⟩;replace BR:aA _ (w.heap.size+1) _ _:=aA.later aY AX;(try simp only [List.setIfInBounds_toArray,aI,aJ] at BR);replace bR:=BR.cell;replace bQ:=BR.free;go_wp2_with fail
  refine bE rfl rfl aY Tryz.underlying88 rfl zk ?_;exact ⟨rfl,aO⟩
theorem LM (a:Fr) (h:rd a=none) (w:World):Calls Tryz.prog 90 #[a.v] w (pO w):=by
 obtain ⟨s,t⟩:=a
 show Calls _ _ #[aB #[O s,O t]] _ _
 unfold rd at h;simp only at h;cases e1:Dec.whole s.data.toList with
 | none=>exact Iw s t e1 w
 | some n =>
  cases e2:Dec.whole t.data.toList with
  | none=>exact Iy s t n e1 e2 w
  | some d =>
   rw [e1,e2] at h;simp only at h;obtain ⟨h1,h2⟩:=nI e1;obtain ⟨h3,h4⟩:=nI e2;have hs:s=⟨(Lib.itoa n).toArray⟩:=Dx h1;have ht:t=⟨(Lib.itoa d).toArray⟩:=Dx h3;rw [hs,ht]
   by_cases hd:0<d
   ·refine CJ n d h2 h4 hd (fun e=>?_) w;rw [dif_pos ⟨hd,e⟩] at h;cases h
   ·exact Bd n d h2 h4 zo w
end Go.Proofs.dw
