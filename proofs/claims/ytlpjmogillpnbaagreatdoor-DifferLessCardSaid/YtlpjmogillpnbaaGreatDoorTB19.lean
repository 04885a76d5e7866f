/- Lemmas for the proof. No condition. -/
import Derived.Test.YtlpjmogillpnbaaGreatDoorTB18
set_option linter.unusedVariables false
set_option linter.unusedSimpArgs false
set_option maxRecDepth 100000
set_option maxHeartbeats 16000000
open Bool renaming and_eq_true → aF
open Go.Ending renaming returned → ah
open Go.IntKind renaming i64 → I
open Go.Value renaming agg → au, bool → ay, int → Z, slice → aj, string → O, tuple → aD
open List renaming set_cons_succ → aH, set_cons_zero → aG
open Nat renaming le_trans → aB, lt_or_ge → aO
namespace Go.Proofs.dD
open Go Go.RowKit Go.SW Go.Num Go.Mem Go.Proofs Go.Dec
theorem _root_.Go.WA {G:Prop} (h:G:=by
 have H:=zh h;have H2:=zh h2;have KZ:=zh kz;have KY:=zh ky;have HE:=zh (PN hz hy);clear h h2 kz ky hz hy;cases b
 all_goals
  go_enter Pk,Pj
  go_wp2_with fail
  refine aT [(.pure,0),(.read,1),(.pure,2),(.read,3),(.pure,5),(.read,6),(.ext,4),(.ext,7),(.fin,8)] zk zk zR zP ?_;refine zV ?_;refine aW rfl rfl (fun w1 hb1 J hJ=>?_);go_simp;have BR:=aC.later (aC.drew (aC.at2 _ _ _ _ _)) hb1;have bT:=BR.cell;have bS:=BR.free;refine (wH _ _ z.natAbs y.natAbs _ aR aR (Nat.le_trans KZ.out zo) (Nat.le_trans KY.out zo)).mono ?_;rintro e v1 ⟨v,rfl,hc1,hv⟩;obtain ⟨Tz,lHS,UF,rfl⟩:=hv.slice;have HS:=zh hv;clear hv;replace BR:=aC.later (BR) hc1;replace bT:=BR.cell;replace bS:=BR.free;refine hJ _ _ hc1 ?_;clear hJ J;refine aW rfl rfl (fun w2 hb2 J hJ=>?_);go_simp;replace BR:=aC.later (BR) hb2;replace bT:=BR.cell;replace bS:=BR.free;refine (dU _ (z.natAbs+y.natAbs) _ _ aR).mono ?_;rintro e v2 ⟨v,rfl,hc2,hv⟩;obtain ⟨Tx,lHT,UE,rfl,HT⟩:=hv;replace HT:=zh HT
  replace BR:=aC.later (BR) hc2;replace bT:=BR.cell;replace bS:=BR.free;refine hJ _ _ hc2 ?_;clear hJ J;refine dG [_] rfl (fun w5 hb5=>?_);replace BR:=aC.later (BR) hb5;replace bT:=BR.cell;replace bS:=BR.free;go_wp2_with fail
  refine iT rfl rfl bf Lh rfl zk ?_;exact ⟨_,rfl,aN,(dN.dW aR).cast HE.out⟩):G:=h
theorem Ct (pa pb:Option Addr) (l m ca cb:Nat) (z y:Int) (b:Bool) (w:World) (h:bC w (aj pa l ca) z.natAbs) (h2:bC w (aj pb m cb) y.natAbs) (hz:decide (z<0)=b) (hy:decide (y<0)=b) (kz:sz 1000000000 z.natAbs≤549755813888) (ky:sz 1000000000 y.natAbs≤549755813888) :
  Calls Tryz.prog 83 #[au #[aj pa l ca,ay b],au #[aj pb m cb,ay b]] w (fun e w'=>∃ v,e= ah v∧Below w.heap.size w w'∧dN w' v (z+y)):=WA
theorem _root_.Go.Wz {G:Prop} (h:G:=by
 have H:=zh h;have H2:=zh h2;have KZ:=zh kz;have KY:=zh ky
 rcases Nat.lt_or_ge z.natAbs y.natAbs with hlt|hge
 ·have HE:Hid (iM (y.natAbs - z.natAbs) (!b)=z+y):=by
   have:=Ig (z:=y) (y:=z) (b:= !b) hy (by rw [hz,Bool.not_not]);rw [if_pos zo] at this;exact this.trans (Int.add_comm _ _)
  have HC:=zh (nO hlt);have HL:=zh hlt;clear h h2 kz ky hz hy hlt;cases b
  all_goals
   go_enter Pk,Pj
   go_wp2_with fail
   refine ((ji _ _ z.natAbs y.natAbs _ aR aR).mono (by rw [HC.out];exact fun _ _ h=>h)).mono ?_;rintro e v1 ⟨rfl,hc1⟩;have BR:=aC.later (aC.at2 _ _ _ _ _) hc1;have bT:=BR.cell;have bS:=BR.free;have B1:=aC.later (aC.alloc (aC.nS _ _ _ _) _) hc1;have cB1:=B1.cell;have qP:=B1.free;have B0:=aC.later (aC.alloc (aC.alloc (aC.new _ _ _) _) _) hc1;have cB0:=B0.cell;have jI:=B0.free;go_wp2_with fail
   refine aT [(.pure,0),(.read,1),(.pure,2),(.read,3),(.pure,5),(.read,6),(.ext,4),(.ext,7),(.fin,8)] zk zk zR zP ?_;refine zV ?_;refine aW rfl rfl (fun w2 hb2 J hJ=>?_);go_simp;replace BR:=aC.later (aC.drew BR) hb2;replace bT:=BR.cell;replace bS:=BR.free;refine (xY _ _ y.natAbs z.natAbs _ aR aR (Nat.le_trans KY.out zo) (Nat.le_of_lt HL.out)).mono ?_;rintro e v2 ⟨v,rfl,hc2,hv⟩;obtain ⟨XH,lHD,YB,rfl⟩:=hv.slice;have HD:=zh hv;clear hv;replace BR:=aC.later (BR) hc2;replace bT:=BR.cell;replace bS:=BR.free;refine hJ _ _ hc2 ?_;clear hJ J;refine aW rfl rfl (fun w3 hb3 J hJ=>?_);go_simp;replace BR:=aC.later (BR) hb3;replace bT:=BR.cell;replace bS:=BR.free;refine (dU _ (y.natAbs - z.natAbs) _ _ aR).mono ?_;rintro e v3 ⟨v,rfl,hc3,hv⟩;obtain ⟨Tx,lHT,UE,rfl,HT⟩:=hv;replace HT:=zh HT
   replace BR:=aC.later (BR) hc3;replace bT:=BR.cell;replace bS:=BR.free;refine hJ _ _ hc3 ?_;clear hJ J;refine dG [_] rfl (fun w5 hb5=>?_);replace BR:=aC.later (BR) hb5;replace bT:=BR.cell;replace bS:=BR.free;go_wp2_with fail
   refine iT rfl rfl bf Lh rfl zk ?_;exact ⟨_,rfl,aN,(dN.dW aR).cast HE.out⟩
 ·have HE:Hid (iM (z.natAbs - y.natAbs) b=z+y):=by
   have:=Ig (z:=z) (y:=y) (b:=b) hz hy;rw [if_pos zo] at this;exact this
  have hs:qM z.natAbs y.natAbs=0∨qM z.natAbs y.natAbs=1:=by
   rcases Nat.lt_or_ge y.natAbs z.natAbs with h2|h2
   ·exact .inr (mQ h2)
   ·have:z.natAbs=y.natAbs:=by omega
    rw [this];exact .inl (oW _)
  have HL:=zh hge;clear h h2 kz ky hz hy hge
  rcases hs with hs|hs<;>cases b
  all_goals
   have HC:=zh hs;clear hs;go_enter Pk,Pj
   go_wp2_with fail
   refine ((ji _ _ z.natAbs y.natAbs _ aR aR).mono (by rw [HC.out];exact fun _ _ h=>h)).mono ?_;rintro e v1 ⟨rfl,hc1⟩;have BR:=aC.later (aC.at2 _ _ _ _ _) hc1;have bT:=BR.cell;have bS:=BR.free;have B1:=aC.later (aC.alloc (aC.nS _ _ _ _) _) hc1;have cB1:=B1.cell;have qP:=B1.free;have B0:=aC.later (aC.alloc (aC.alloc (aC.new _ _ _) _) _) hc1;have cB0:=B0.cell;have jI:=B0.free;go_wp2_with fail
   refine aT [(.pure,0),(.read,1),(.pure,2),(.read,3),(.pure,5),(.read,6),(.ext,4),(.ext,7),(.fin,8)] zk zk zR zP ?_;refine zV ?_;refine aW rfl rfl (fun w2 hb2 J hJ=>?_);go_simp;replace BR:=aC.later (aC.drew BR) hb2;replace bT:=BR.cell;replace bS:=BR.free;refine (xY _ _ z.natAbs y.natAbs _ aR aR (Nat.le_trans KZ.out zo) HL.out).mono ?_;rintro e v2 ⟨v,rfl,hc2,hv⟩;obtain ⟨XH,lHD,YB,rfl⟩:=hv.slice;have HD:=zh hv;clear hv;replace BR:=aC.later (BR) hc2;replace bT:=BR.cell;replace bS:=BR.free;refine hJ _ _ hc2 ?_;clear hJ J;refine aW rfl rfl (fun w3 hb3 J hJ=>?_);go_simp;replace BR:=aC.later (BR) hb3;replace bT:=BR.cell;replace bS:=BR.free;refine (dU _ (z.natAbs - y.natAbs) _ _ aR).mono ?_;rintro e v3 ⟨v,rfl,hc3,hv⟩;obtain ⟨Tx,lHT,UE,rfl,HT⟩:=hv;replace HT:=zh HT
   replace BR:=aC.later (BR) hc3;replace bT:=BR.cell;replace bS:=BR.free;refine hJ _ _ hc3 ?_;clear hJ J;refine dG [_] rfl (fun w5 hb5=>?_);replace BR:=aC.later (BR) hb5;replace bT:=BR.cell;replace bS:=BR.free;go_wp2_with fail
   refine iT rfl rfl bf Lh rfl zk ?_;exact ⟨_,rfl,aN,(dN.dW aR).cast HE.out⟩):G:=h
theorem Cu (pa pb:Option Addr) (l m ca cb:Nat) (z y:Int) (b:Bool) (w:World) (h:bC w (aj pa l ca) z.natAbs) (h2:bC w (aj pb m cb) y.natAbs) (hz:decide (z<0)=b) (hy:decide (y<0)= !b) (kz:sz 1000000000 z.natAbs≤549755813888) (ky:sz 1000000000 y.natAbs≤549755813888) :
  Calls Tryz.prog 83 #[au #[aj pa l ca,ay b],au #[aj pb m cb,ay !b]] w (fun e w'=>∃ v,e= ah v∧Below w.heap.size w w'∧dN w' v (z+y)):=Wz
theorem _root_.Go.Wy {G:Prop} (h:G:=by
 obtain ⟨pa,l,ca,rfl,hm⟩:=h;obtain ⟨pb,m,cb,rfl,hm2⟩:=h2
 by_cases hb:decide (z<0)=decide (y<0)
 ·rw [hb];exact Ct pa pb l m ca cb z y (decide (y<0)) w hm hm2 hb rfl kz ky
 ·have hb2:decide (y<0)= !decide (z<0):=by
   cases h1:decide (z<0)<;>cases h2:decide (y<0)<;>simp_all
  rw [hb2];exact Cu pa pb l m ca cb z y (decide (z<0)) w hm hm2 rfl hb2 kz ky):G:=h
theorem xA (v u:Value) (z y:Int) (w:World) (h:dN w v z) (h2:dN w u y) (kz:sz 1000000000 z.natAbs≤549755813888) (ky:sz 1000000000 y.natAbs≤549755813888) :
  Calls Tryz.prog 83 #[v,u] w (fun e w'=>∃ v,e= ah v∧Below w.heap.size w w'∧dN w' v (z+y)):=Wy
theorem Hz (v:Value) (z:Int) (w:World) (h:dN w v z) (kz:sz 1000000000 z.natAbs≤1099511627776) (ht:gJ.Pow w) :
  Calls Tryz.prog 93 #[v] w (fun e w'=>e= ah (dA z)∧Below w.heap.size w w'):=by
 obtain ⟨pa,l,ca,rfl,hm⟩:=h
 have hlen:((1+(Lib.decDigits z.natAbs).length:Nat):Int)≤9223372036854775807:=by
  have h1:=qB (bN (B:=1000000000) zo z.natAbs);rw [bH zo] at h1;unfold sz at kz;omega
 have Sb:¬ 9223372036854775807<1+(Lib.decDigits z.natAbs).length:=by omega
 have H:=zh hm;have KZ:=zh kz;have HT:=zh ht;clear hm kz ht hlen
 by_cases hz:z<0
 ·have e:dA z= O ⟨(45::Lib.decDigits z.natAbs).toArray⟩:=by unfold dA Lib.itoa;rw [if_pos hz]
  rw [e,decide_eq_true hz];clear e hz;go_enter Tryz.func93,Tryz.ntmps93
  go_wp2_with fail
  refine (om _ z.natAbs _ aR KZ.out (HT.out.later aN)).mono ?_;rintro e v1 ⟨rfl,hc1⟩;go_wp2_with fail
  go_ret
  exact ⟨rfl,aN⟩
 ·have e:dA z= O ⟨(Lib.decDigits z.natAbs).toArray⟩:=by unfold dA Lib.itoa;rw [if_neg hz,show z.toNat=z.natAbs by omega]
  rw [e,decide_eq_false hz];clear e hz;go_enter Tryz.func93,Tryz.ntmps93
  go_wp2_with fail
  refine (om _ z.natAbs _ aR KZ.out (HT.out.later aN)).mono ?_;rintro e v1 ⟨rfl,hc1⟩;go_wp2_with fail
  go_ret
  exact ⟨rfl,aN⟩
end Go.Proofs.dD
namespace Go.Proofs.dD
open Go Go.RowKit Go.SW Go.Num Go.Mem Go.Proofs Go.Dec Go.gW
theorem sN (v:Value) (z:Int) (w:World) (h:dN w v z) :
  Calls Tryz.prog 48 #[v] w (fun e w'=>e= ah (Z I (rR z))∧Below w.heap.size w w'):=by
 obtain ⟨CZ,lH,Ep,rfl,H⟩:=h;replace H:=zh H
 rcases Int.lt_trichotomy z 0 with hz|hz|hz
 ·have e:rR z= -1:=by unfold rR;rw [if_neg zo,if_pos hz]
  rw [e,decide_eq_true hz];have h0:decide (z.natAbs=0)=false:=by simp;omega
  go_enter Tryz.func48,Tryz.ntmps48
  go_wp2_with (go_at_call 52;refine (gL _ z.natAbs _ aR).mono ?_;rintro e w1 ⟨rfl,rfl⟩;rw [h0])
  go_ret
  exact ⟨rfl,aN⟩
 ·subst hz;go_enter Tryz.func48,Tryz.ntmps48
  go_wp2_with (go_at_call 52;refine (gL _ (Int.natAbs 0) _ aR).mono ?_;rintro e w1 ⟨rfl,rfl⟩)
  go_ret
  exact ⟨rfl,aN⟩
 ·have e:rR z=1:=by unfold rR;rw [if_neg zo,if_neg zo]
  rw [e,decide_eq_false (show ¬ z<0 by omega)];have h0:decide (z.natAbs=0)=false:=by simp;omega
  go_enter Tryz.func48,Tryz.ntmps48
  go_wp2_with (go_at_call 52;refine (gL _ z.natAbs _ aR).mono ?_;rintro e w1 ⟨rfl,rfl⟩;rw [h0])
  go_ret
  exact ⟨rfl,aN⟩
theorem xS (x y:Value) (p q:Rat) (w:World) (hx:eG w x p) (hy:eG w y q) (kp:qc 1000000 p) (kq:qc 1000000 q) :
  Calls Tryz.prog 87 #[x,y] w (fun e w'=>e= ah (Z I (oo p q))∧Below w.heap.size w w'):=by
 obtain ⟨CZ,lH,Ep,O6,mH,O9,rfl,H,Hd⟩:=hx;replace H:=zh H;replace Hd:=zh Hd;obtain ⟨VU,lG,Wi,pbG,mG,cbG,rfl,G,Gd⟩:=hy;replace G:=zh G;replace Gd:=zh Gd;rw [← Cx];have k1:=mD p.num q.den;have k2:=mD q.num p.den;obtain ⟨V4,V3⟩:=kp;obtain ⟨VZ,VY⟩:=kq;obtain ⟨y1,Ey1⟩:∃ y:Int,Hid (p.num*(q.den:Int)=y):=⟨_,zh rfl⟩;obtain ⟨y2,Ey2⟩:∃ y:Int,Hid (q.num*(p.den:Int)=y):=⟨_,zh rfl⟩;obtain ⟨y3,Ey3⟩:∃ y:Int,Hid (-y2=y):=⟨_,zh rfl⟩;obtain ⟨y4,Ey4⟩:∃ y:Int,Hid (y1+y3=y):=⟨_,zh rfl⟩;rw [Ey1.out,Ey2.out,Ey3.out,Ey4.out];rw [Ey1.out] at k1;rw [Ey2.out] at k2;have k3:sz 1000000000 y3.natAbs=sz 1000000000 y2.natAbs:=by rw [← Ey3.out,Int.natAbs_neg]
 have K1:Hid (sz 1000000000 y1.natAbs≤549755813888):=by unfold Hid;omega
 have K3:Hid (sz 1000000000 y3.natAbs≤549755813888):=by unfold Hid;omega
 have KP1:=zh V4;have KP2:=zh V3;have KQ1:=zh VZ;have KQ2:=zh VY;clear V4 V3 VZ VY k1 k2 k3;go_enter Tryz.func87,Tryz.ntmps87
 go_wp2_with fail
 refine aT [(.pure,0),(.read,1),(.pure,2),(.read,3),(.pure,5),(.read,6),(.pure,7),(.read,8),(.ext,4),(.ext,9),(.ext,10),(.ext,11),(.ext,12),(.fin,13)] zk zk zR zP ?_;refine zV ?_;refine aW rfl rfl (fun w1 hb1 J hJ=>?_);go_simp;refine ((nU _ _ p.num q.den _ (dN.dW aR) aR (aB KP1.out zo) (aB KQ2.out zo)).mono (by rw [Ey1.out];exact fun _ _ h=>h)).mono ?_;rintro e v1 ⟨v,rfl,hc1,hv⟩;obtain ⟨ap2,lHA,au1,rfl,HA⟩:=hv;replace HA:=zh HA;refine hJ _ _ hc1 ?_;clear hJ J;refine aW rfl rfl (fun w2 hb2 J hJ=>?_);go_simp;refine ((nU _ _ q.num p.den _ (dN.dW aR) aR (aB KQ1.out zo) (aB KP2.out zo)).mono (by rw [Ey2.out];exact fun _ _ h=>h)).mono ?_;rintro e v2 ⟨v,rfl,hc2,hv⟩;obtain ⟨ap1,lHB,au0,rfl,HB⟩:=hv;replace HB:=zh HB;refine hJ _ _ hc2 ?_;clear hJ J
 refine aW rfl rfl (fun w3 hb3 J hJ=>?_);go_simp;refine ((vH _ y2 _ (dN.dW aR)).mono (by rw [Ey3.out];exact fun _ _ h=>h)).mono ?_;rintro e v3 ⟨v,rfl,hc3,hv⟩;obtain ⟨ap0,lHC,at7,rfl,HC⟩:=hv;replace HC:=zh HC;refine hJ _ _ hc3 ?_;clear hJ J;refine aW rfl rfl (fun w4 hb4 J hJ=>?_);go_simp;refine ((xA _ _ y1 y3 _ (dN.dW aR) (dN.dW aR) K1.out K3.out).mono (by rw [Ey4.out];exact fun _ _ h=>h)).mono ?_;rintro e v4 ⟨v,rfl,hc4,hv⟩;obtain ⟨XH,lHD,YB,rfl,HD⟩:=hv;replace HD:=zh HD;refine hJ _ _ hc4 ?_;clear hJ J;refine aW rfl rfl (fun w5 hb5 J hJ=>?_);go_simp;refine (sN _ y4 _ (dN.dW aR)).mono ?_;rintro e v5 ⟨rfl,mg⟩;refine hJ _ _ mg ?_;clear hJ J;refine dG [_] rfl (fun w5 hb5=>?_);go_wp2_with fail
 go_ret
 exact ⟨rfl,aN⟩
theorem mU (x y:Value) (n:Int) (d:Nat) (w:World) (hx:dN w x n) (hy:bC w y d) (hd:0<d) (kn:sz 1000000000 n.natAbs≤549755813888) (kd:sz 1000000000 d≤549755813888) :
  Calls Tryz.prog 98 #[x,y] w (fun e w'=>∃ v,e= ah v∧Below w.heap.size w w'∧eG w' v (mkRat n d)):=by
 obtain ⟨CZ,lH,Ep,rfl,H⟩:=hx;replace H:=zh H;obtain ⟨VU,lG,Wi,rfl⟩:=hy.slice;have G:=zh hy;clear hy;have HP:=zh (qo n hd);have hg:0<n.natAbs.gcd d:=Nat.gcd_pos_of_pos_right _ hd;obtain ⟨g,Eg⟩:∃ y:Nat,Hid (n.natAbs.gcd d=y):=⟨_,zh rfl⟩;obtain ⟨a,Ea⟩:∃ y:Nat,Hid (n.natAbs / g=y):=⟨_,zh rfl⟩;obtain ⟨b,Eb⟩:∃ y:Nat,Hid (d / g=y):=⟨_,zh rfl⟩;rw [Eg.out] at HP hg;rw [Ea.out,Eb.out] at HP;have KN:=zh kn;have KD:=zh kd;have HG:=zh hg;clear kn kd hg hd;go_enter Tryz.func98,Tryz.ntmps98
 go_wp2_with fail
 refine ((rZ _ _ n.natAbs d _ aR aR KN.out KD.out).mono (by rw [Eg.out];exact fun _ _ h=>h)).mono ?_;rintro e v1 ⟨v,rfl,hc1,hv⟩;obtain ⟨MB,XL,Oj,rfl⟩:=hv.slice;have Hg:=zh hv;clear hv;have BR:=aC.later (aC.nS _ _ _ _) hc1;have bT:=BR.cell;have bS:=BR.free;have B0:=aC.later (aC.alloc (aC.new _ _ _) _) hc1;have cB0:=B0.cell;have jI:=B0.free;go_wp2_with fail
 refine ((fO _ _ n.natAbs g _ aR aR HG.out KN.out).mono (by rw [Ea.out];exact fun _ _ h=>h)).mono ?_;rintro e v2 ⟨v,vr,rfl,hc2,hv,mY⟩;obtain ⟨XG,lHa,YA,rfl⟩:=hv.slice;have Ha:=zh hv;clear hv;obtain ⟨aj1,aq5,ak3,rfl⟩:=mY.slice;have Har:=zh mY;clear mY;replace BR:=aC.later (BR) hc2;replace bT:=BR.cell;replace bS:=BR.free;replace B0:=aC.later (B0) hc2;replace cB0:=B0.cell;replace jI:=B0.free;go_wp2_with fail
 refine ((fO _ _ d g _ aR aR HG.out KD.out).mono (by rw [Eb.out];exact fun _ _ h=>h)).mono ?_;rintro e v3 ⟨v,vr,rfl,hc3,hv,mY⟩;obtain ⟨aa9,lHb,af5,rfl⟩:=hv.slice;have Hb:=zh hv;clear hv;obtain ⟨aj0,aq4,ak2,rfl⟩:=mY.slice;have Hbr:=zh mY;clear mY;replace BR:=aC.later (BR) hc3;replace bT:=BR.cell;replace bS:=BR.free;replace B0:=aC.later (B0) hc3;replace cB0:=B0.cell;replace jI:=B0.free;go_wp2_with fail
 refine (dU _ a _ _ aR).mono ?_;rintro e v4 ⟨v,rfl,hc4,hv⟩;obtain ⟨tC,IL,uz,rfl,Hs⟩:=hv;replace Hs:=zh Hs;replace BR:=aC.later (BR) hc4;replace bT:=BR.cell;replace bS:=BR.free;replace B0:=aC.later (B0) hc4;replace cB0:=B0.cell;replace jI:=B0.free;go_wp2_with fail
 refine iT rfl rfl bf Tryz.underlying73 rfl zk ?_;exact ⟨_,rfl,aN,eG.mk (iM a (decide (n<0))).natAbs b aR aR (by rw [HP.out.1]) HP.out.2.symm (by rw [HP.out.1])⟩
theorem iG (v:Value) (q:Rat) (w:World) (h:eG w v q) (k:qc 1000000 q) (ht:gJ.Pow w) :
  Calls Tryz.prog 51 #[v] w (fun e w'=>e= ah (Fr.res (wr q))∧Below w.heap.size w w'):=by
 obtain ⟨CZ,lH,Ep,O6,mH,O9,rfl,H,Hd⟩:=h;replace H:=zh H;replace Hd:=zh Hd;have HT:=zh ht;have K1:=zh k.1;have K2:=zh k.2;clear ht k
 rcases aO 600 (Lib.decDigits q.num.natAbs).length with h1|h1
 ·rw [Lv (by unfold zF;rw [FZ h1];rfl)];go_enter Tryz.func51,Tryz.ntmps51
  go_wp2_with fail
  refine (j3 _ q.num.natAbs _ aR (aB K1.out zo) (HT.out.later aN)).mono ?_;rintro e v1 ⟨rfl,hc1⟩;have BR:=aC.later (aC.nS _ _ _ _) hc1;have bT:=BR.cell;have bS:=BR.free;have B0:=aC.later (aC.alloc (aC.new _ _ _) _) hc1;have cB0:=B0.cell;have jI:=B0.free;go_wp2_with fail
  refine aY rfl rfl bf Tryz.underlying29 rfl zk ?_;exact ⟨rfl,aN⟩
 ·rcases aO 600 (Lib.decDigits q.den).length with h2|h2
  ·rw [Lv (by unfold zF;rw [FZ h2,Bool.and_false])];go_enter Tryz.func51,Tryz.ntmps51
   go_wp2_with fail
   refine (j3 _ q.num.natAbs _ aR (aB K1.out zo) (HT.out.later aN)).mono ?_;rintro e v1 ⟨rfl,hc1⟩;have BR:=aC.later (aC.nS _ _ _ _) hc1;have bT:=BR.cell;have bS:=BR.free;have B0:=aC.later (aC.alloc (aC.new _ _ _) _) hc1;have cB0:=B0.cell;have jI:=B0.free;go_wp2_with fail
   refine (j3 _ q.den _ aR (aB K2.out zo) (HT.out.later aN)).mono ?_;rintro e v2 ⟨rfl,hc2⟩;replace BR:=aC.later (BR) hc2;replace bT:=BR.cell;replace bS:=BR.free;replace B0:=aC.later (B0) hc2;replace cB0:=B0.cell;replace jI:=B0.free;go_wp2_with fail
   refine aY rfl rfl bf Tryz.underlying29 rfl zk ?_;exact ⟨rfl,aN⟩
  ·rw [Xv (by unfold zF;rw [dZ.2 h1,dZ.2 h2];rfl)];go_enter Tryz.func51,Tryz.ntmps51
   go_wp2_with fail
   refine (j3 _ q.num.natAbs _ aR (aB K1.out zo) (HT.out.later aN)).mono ?_;rintro e v1 ⟨rfl,hc1⟩;have BR:=aC.later (aC.nS _ _ _ _) hc1;have bT:=BR.cell;have bS:=BR.free;have B0:=aC.later (aC.alloc (aC.new _ _ _) _) hc1;have cB0:=B0.cell;have jI:=B0.free;go_wp2_with fail
   refine (j3 _ q.den _ aR (aB K2.out zo) (HT.out.later aN)).mono ?_;rintro e v2 ⟨rfl,hc2⟩;replace BR:=aC.later (BR) hc2;replace bT:=BR.cell;replace bS:=BR.free;replace B0:=aC.later (B0) hc2;replace cB0:=B0.cell;replace jI:=B0.free;go_wp2_with fail
   refine aT [(.pure,0),(.read,1),(.pure,3),(.read,4),(.ext,2),(.ext,5),(.pure,6),(.fin,7),(.fin,8)] zk zk zR zP ?_;refine zV ?_;refine aW rfl rfl (fun w3 hb3 J hJ=>?_);go_simp;replace BR:=aC.later (aC.drew BR) hb3;replace bT:=BR.cell;replace bS:=BR.free;refine ((Hz _ q.num _ (dN.dW aR) (aB K1.out zo) (HT.out.later aN)).mono (fun _ _ h=>by unfold dA at h;exact h)).mono ?_;rintro e v3 ⟨rfl,hc3⟩;replace BR:=aC.later (BR) hc3;replace bT:=BR.cell;replace bS:=BR.free;refine hJ _ _ hc3 ?_;clear hJ J;refine aW rfl rfl (fun w4 hb4 J hJ=>?_);go_simp;replace BR:=aC.later (BR) hb4;replace bT:=BR.cell;replace bS:=BR.free;refine (om _ q.den _ aR (aB K2.out zo) (HT.out.later aN)).mono ?_;rintro e v4 ⟨rfl,hc4⟩;replace BR:=aC.later (BR) hc4;replace bT:=BR.cell;replace bS:=BR.free;refine hJ _ _ hc4 ?_;clear hJ J
   refine zV ?_;refine dG [_,_] rfl (fun w5 hb5=>?_);replace BR:=aC.later (BR) hb5;replace bT:=BR.cell;replace bS:=BR.free;go_wp2_with fail
   refine aY rfl rfl bf Tryz.underlying29 rfl zk ?_;exact ⟨rfl,aN⟩
def EY (w:World) (q:Rat) (e:Ending) (w':World):Prop:=∃ v,e= ah (aD #[v,ay true])∧Below w.heap.size w w'∧eG w' v q
def oK (w:World) (e:Ending) (w':World):Prop:=e= ah (aD #[au #[aj none 0 0,ay false,aj none 0 0],ay false])∧Below w.heap.size w w'
theorem jM {s:ByteArray} {z:Int} (h:Dec.whole s.data.toList=some z) (w:World):Calls Tryz.prog 89 #[O s] w (fun e w'=>e= ah (Z I 0)∧Below w.heap.size w w'):=by
 have:=whole.gI s w;rw [h] at this;exact this
theorem yN {s:ByteArray} (h:Dec.whole s.data.toList=none) (w:World):Calls Tryz.prog 89 #[O s] w (fun e w'=>e= ah (Z I 10)∧Below w.heap.size w w'):=by
 have:=whole.gI s w;rw [h] at this;exact this
theorem FL (s t:ByteArray) (h:Dec.whole s.data.toList=none) (w:World) :
  Calls Tryz.prog 47 #[au #[O s,O t]] w (oK w):=by
 have HC:=zh (yN h);clear h;go_enter Tryz.func47,Tryz.ntmps47
 go_wp2_with fail
 refine (HC.out _).mono ?_;rintro e v1 ⟨rfl,hc1⟩;have BR:=aC.later (aC.nS _ _ _ _) hc1;have bT:=BR.cell;have bS:=BR.free;have B0:=aC.later (aC.alloc (aC.new _ _ _) _) hc1;have cB0:=B0.cell;have jI:=B0.free;go_wp2_with fail
 refine aY rfl rfl bf Tryz.underlying73 rfl zk ?_;exact ⟨rfl,aN⟩
theorem FM (s t:ByteArray) (n:Int) (hn:Dec.whole s.data.toList=some n) (h:Dec.whole t.data.toList=none) (w:World) :
  Calls Tryz.prog 47 #[au #[O s,O t]] w (oK w):=by
 have HC:=zh (jM hn);have HD:=zh (yN h);clear h hn;go_enter Tryz.func47,Tryz.ntmps47
 go_wp2_with fail
 refine (HC.out _).mono ?_;rintro e v1 ⟨rfl,hc1⟩;have BR:=aC.later (aC.nS _ _ _ _) hc1;have bT:=BR.cell;have bS:=BR.free;have B0:=aC.later (aC.alloc (aC.new _ _ _) _) hc1;have cB0:=B0.cell;have jI:=B0.free;go_wp2_with fail
 refine (HD.out _).mono ?_;rintro e v2 ⟨rfl,hc2⟩;replace BR:=aC.later (BR) hc2;replace bT:=BR.cell;replace bS:=BR.free;replace B0:=aC.later (B0) hc2;replace cB0:=B0.cell;replace jI:=B0.free;go_wp2_with fail
 refine aY rfl rfl bf Tryz.underlying73 rfl zk ?_;exact ⟨rfl,aN⟩
theorem JC (q:Rat) (hq:zF q=true) (w:World) :
  Calls Tryz.prog 47 #[(Fr.of q).v] w (EY w q):=by
 show Calls _ _ #[au #[O ⟨(Lib.itoa q.num).toArray⟩,O ⟨(Lib.itoa (q.den:Int)).toArray⟩]] _ _
 have hs:=kG hq
 have hl:(Lib.decDigits q.num.natAbs).length≤600∧(Lib.decDigits ((q.den:Nat):Int).natAbs).length≤600:=by
  unfold zF at hq;rw [aF,dZ,dZ] at hq;exact ⟨hq.1,(Int.natAbs_natCast q.den).symm ▸ hq.2⟩
 obtain ⟨hl1,hl2⟩:=hl;have hd:=q.den_pos;have hr:=q.reduced;have HC:=zh (jM (s:=⟨(Lib.itoa q.num).toArray⟩) (eF hl1));have HD:=zh (jM (s:=⟨(Lib.itoa (q.den:Int)).toArray⟩) (eF hl2));have SF:=zh hl1;have HL2:=zh hl2;have HR:=zh hr;have S1:=zh hs.1;have S2:=zh hs.2;obtain ⟨d,Ed⟩:∃ y:Int,Hid ((q.den:Int)=y):=⟨_,zh rfl⟩;have hdn:d.natAbs=q.den:=by rw [← Ed.out,Int.natAbs_natCast]
 have hd1:0<d:=by rw [← Ed.out];omega
 have hsg:rR d=1:=by unfold rR;rw [if_neg zo,if_neg zo]
 have hdf:decide (d<0)=false:=by simp;omega
 have Wu:=zh hdn;have Y8:=zh hsg;have HDF:=zh hdf;have HR1:Hid (q.num.natAbs.gcd d.natAbs=1):=by unfold Hid;rw [hdn];exact hr
 rw [Ed.out] at HL2 HD ⊢;clear hq hs hl1 hl2 hr hd hdn hd1 hsg hdf;go_enter Tryz.func47,Tryz.ntmps47
 go_wp2_with fail
 refine (HC.out _).mono ?_;rintro e v1 ⟨rfl,hc1⟩;have BR:=aC.later (aC.nS _ _ _ _) hc1;have bT:=BR.cell;have bS:=BR.free;have B0:=aC.later (aC.alloc (aC.new _ _ _) _) hc1;have cB0:=B0.cell;have jI:=B0.free;go_wp2_with fail
 refine (HD.out _).mono ?_;rintro e v2 ⟨rfl,hc2⟩;replace BR:=aC.later (BR) hc2;replace bT:=BR.cell;replace bS:=BR.free;replace B0:=aC.later (B0) hc2;replace cB0:=B0.cell;replace jI:=B0.free;go_wp2_with fail
 refine aT [(.pure,0),(.read,1),(.pure,3),(.read,4),(.ext,2),(.ext,5),(.alloc #[aj none 0 0,ay false] 71,6),(.alloc #[aj none 0 0,ay false] 71,7),(.fin,8),(.fin,9)] zk zk zR zP ?_;refine zV ?_;refine aW rfl rfl (fun w3 hb3 J hJ=>?_);go_simp;replace BR:=aC.later (aC.drew BR) hb3;replace bT:=BR.cell;replace bS:=BR.free;replace B0:=aC.later (aC.drew B0) hb3;replace cB0:=B0.cell;replace jI:=B0.free;refine (jw q.num SF.out _).mono ?_;rintro e v3 ⟨v,rfl,hc3,hv⟩;obtain ⟨P9,Zy,QU,rfl,HN⟩:=hv;replace HN:=zh HN;replace BR:=aC.later (BR) hc3;replace bT:=BR.cell;replace bS:=BR.free;replace B0:=aC.later (B0) hc3;replace cB0:=B0.cell;replace jI:=B0.free;refine hJ _ _ hc3 ?_;clear hJ J;refine aW rfl rfl (fun w4 hb4 J hJ=>?_);go_simp;replace BR:=aC.later (BR) hb4;replace bT:=BR.cell;replace bS:=BR.free
 replace B0:=aC.later (B0) hb4;replace cB0:=B0.cell;replace jI:=B0.free;refine (jw d HL2.out _).mono ?_;rintro e v4 ⟨v,rfl,hc4,hv⟩;obtain ⟨Qa,Zz,QV,rfl,HM⟩:=hv;replace HM:=zh HM;replace BR:=aC.later (BR) hc4;replace bT:=BR.cell;replace bS:=BR.free;replace B0:=aC.later (B0) hc4;replace cB0:=B0.cell;replace jI:=B0.free;refine hJ _ _ hc4 ?_;clear hJ J;refine gP rfl (fun b1 w5 V6 Gr Nu Uj dL=>?_);go_simp;replace dL:aC _ _ _ _:=dL;have Uh:w.heap.size≤b1:=(by first|omega|exact aB (Below.size (B:=w.heap.size) aN) Gr);replace BR:=aC.later (BR) V6;replace bT:=BR.cell;replace bS:=BR.free;refine gP rfl (fun b2 w6 R6 Ny R9 NC iK=>?_);go_simp;replace iK:aC _ _ _ _:=iK;have Yr:w.heap.size≤b2:=(by first|omega|exact aB (Below.size (B:=w.heap.size) aN) Ny)
 replace BR:=aC.later (BR) R6;replace bT:=BR.cell;replace bS:=BR.free;replace dL:=aC.later (dL) R6;replace nk:=dL.cell;replace mZ:=dL.free;refine dG [_,_] rfl (fun w7 og=>?_);replace BR:=aC.later (BR) og;replace bT:=BR.cell;replace bS:=BR.free;replace dL:=aC.later (dL) og;replace nk:=dL.cell;replace mZ:=dL.free;replace iK:=aC.later (iK) og;replace yM:=iK.cell;replace yE:=iK.free;have n1:b1≠b2:=fun e=>NC (by simp [e]);have n2:b2≠b1:=fun e=>n1 e.symm;have n3:=BR.ne dL zd;have n4:=BR.ne iK zd;go_wp2_with fail
 refine ((sN _ d _ (dN.dW aR)).mono (by rw [Y8.out];exact fun _ _ h=>h)).mono ?_;rintro e v5 ⟨rfl,mg⟩;replace HN:=zh (bC.carry HN.out aR mg);replace HM:=zh (bC.carry HM.out aR mg);replace dL:aC _ (b1) _ _:=aC.later bf mg;(try simp only [List.setIfInBounds_toArray,aG,aH] at dL);replace nk:=dL.cell;replace mZ:=dL.free;replace iK:aC _ (b2) _ _:=aC.later bf mg;(try simp only [List.setIfInBounds_toArray,aG,aH] at iK);replace yM:=iK.cell;replace yE:=iK.free;replace BR:aC _ (w.heap.size+1) _ _:=aC.later bf mg;(try simp only [List.setIfInBounds_toArray,aG,aH] at BR);replace bT:=BR.cell;replace bS:=BR.free;go_wp2_with fail
 refine ((rZ _ _ q.num.natAbs d.natAbs _ aR aR (aB S1.out zo) (by rw [Wu.out];exact aB S2.out zo)).mono (by rw [HR1.out];exact fun _ _ h=>h)).mono ?_;rintro e v6 ⟨v,rfl,hc6,hv⟩;obtain ⟨ab1,lHG,af7,rfl⟩:=hv.slice;have HG:=zh hv;clear hv;replace HN:=zh (bC.later HN.out hc6);replace HM:=zh (bC.later HM.out hc6);replace dL:=aC.later (dL) hc6;replace nk:=dL.cell;replace mZ:=dL.free;replace iK:=aC.later (iK) hc6;replace yM:=iK.cell;replace yE:=iK.free;replace BR:=aC.later (BR) hc6;replace bT:=BR.cell;replace bS:=BR.free;go_wp2_with fail
 refine ((ji _ _ 1 1 _ aR (bC.lit zo zo)).mono (by rw [oW];exact fun _ _ h=>h)).mono ?_;rintro e v7 ⟨rfl,sG⟩;replace HN:=zh (bC.carry HN.out aR sG);replace HM:=zh (bC.carry HM.out aR sG);replace dL:aC _ (b1) _ _:=aC.later bf sG;(try simp only [List.setIfInBounds_toArray,aG,aH] at dL);replace nk:=dL.cell;replace mZ:=dL.free;replace iK:aC _ (b2) _ _:=aC.later bf sG;(try simp only [List.setIfInBounds_toArray,aG,aH] at iK);replace yM:=iK.cell;replace yE:=iK.free;replace BR:aC _ (w.heap.size+1) _ _:=aC.later bf sG;(try simp only [List.setIfInBounds_toArray,aG,aH] at BR);replace bT:=BR.cell;replace bS:=BR.free;go_wp2_with fail
 refine aY rfl rfl bf Tryz.underlying73 rfl zk ?_;refine ⟨_,rfl,aN,eG.mk q.num.natAbs d.natAbs aR aR rfl Wu.out rfl⟩
theorem zB (n d:Int) (hl1:(Lib.decDigits n.natAbs).length≤600) (hl2:(Lib.decDigits d.natAbs).length≤600) (hd:d≤0) (w:World) :
  Calls Tryz.prog 47 #[au #[O ⟨(Lib.itoa n).toArray⟩,O ⟨(Lib.itoa d).toArray⟩]] w (oK w):=by
 have HC:=zh (jM (s:=⟨(Lib.itoa n).toArray⟩) (eF hl1));have HD:=zh (jM (s:=⟨(Lib.itoa d).toArray⟩) (eF hl2));have SF:=zh hl1;have HL2:=zh hl2
 have hs:rR d=0∨rR d= -1:=by
  unfold rR
  by_cases h:d=0
  ·rw [if_pos h];exact .inl rfl
  ·rw [if_neg h,if_pos zo];exact .inr rfl
 clear hl1 hl2 hd
 rcases hs with hs|hs
 all_goals
  have Y8:=zh hs;clear hs;go_enter Tryz.func47,Tryz.ntmps47
  go_wp2_with fail
  refine (HC.out _).mono ?_;rintro e v1 ⟨rfl,hc1⟩;have BR:=aC.later (aC.nS _ _ _ _) hc1;have bT:=BR.cell;have bS:=BR.free;have B0:=aC.later (aC.alloc (aC.new _ _ _) _) hc1;have cB0:=B0.cell;have jI:=B0.free;go_wp2_with fail
  refine (HD.out _).mono ?_;rintro e v2 ⟨rfl,hc2⟩;replace BR:=aC.later (BR) hc2;replace bT:=BR.cell;replace bS:=BR.free;replace B0:=aC.later (B0) hc2;replace cB0:=B0.cell;replace jI:=B0.free;go_wp2_with fail
  refine aT [(.pure,0),(.read,1),(.pure,3),(.read,4),(.ext,2),(.ext,5),(.alloc #[aj none 0 0,ay false] 71,6),(.alloc #[aj none 0 0,ay false] 71,7),(.fin,8),(.fin,9)] zk zk zR zP ?_;refine zV ?_;refine aW rfl rfl (fun w3 hb3 J hJ=>?_);go_simp;replace BR:=aC.later (aC.drew BR) hb3;replace bT:=BR.cell;replace bS:=BR.free;replace B0:=aC.later (aC.drew B0) hb3;replace cB0:=B0.cell;replace jI:=B0.free;refine (jw n SF.out _).mono ?_;rintro e v3 ⟨v,rfl,hc3,hv⟩;obtain ⟨P9,Zy,QU,rfl,HN⟩:=hv;replace HN:=zh HN;replace BR:=aC.later (BR) hc3;replace bT:=BR.cell;replace bS:=BR.free;replace B0:=aC.later (B0) hc3;replace cB0:=B0.cell;replace jI:=B0.free;refine hJ _ _ hc3 ?_;clear hJ J;refine aW rfl rfl (fun w4 hb4 J hJ=>?_);go_simp;replace BR:=aC.later (BR) hb4;replace bT:=BR.cell;replace bS:=BR.free
  replace B0:=aC.later (B0) hb4;replace cB0:=B0.cell;replace jI:=B0.free;refine (jw d HL2.out _).mono ?_;rintro e v4 ⟨v,rfl,hc4,hv⟩;obtain ⟨Qa,Zz,QV,rfl,HM⟩:=hv;replace HM:=zh HM;replace BR:=aC.later (BR) hc4;replace bT:=BR.cell;replace bS:=BR.free;replace B0:=aC.later (B0) hc4;replace cB0:=B0.cell;replace jI:=B0.free;refine hJ _ _ hc4 ?_;clear hJ J;refine gP rfl (fun b1 w5 V6 Gr Nu Uj dL=>?_);go_simp;replace dL:aC _ _ _ _:=dL;have Uh:w.heap.size≤b1:=(by first|omega|exact aB (Below.size (B:=w.heap.size) aN) Gr);replace BR:=aC.later (BR) V6;replace bT:=BR.cell;replace bS:=BR.free;refine gP rfl (fun b2 w6 R6 Ny R9 NC iK=>?_);go_simp;replace iK:aC _ _ _ _:=iK;have Yr:w.heap.size≤b2:=(by first|omega|exact aB (Below.size (B:=w.heap.size) aN) Ny)
  replace BR:=aC.later (BR) R6;replace bT:=BR.cell;replace bS:=BR.free;replace dL:=aC.later (dL) R6;replace nk:=dL.cell;replace mZ:=dL.free;refine dG [_,_] rfl (fun w7 og=>?_);replace BR:=aC.later (BR) og;replace bT:=BR.cell;replace bS:=BR.free;replace dL:=aC.later (dL) og;replace nk:=dL.cell;replace mZ:=dL.free;replace iK:=aC.later (iK) og;replace yM:=iK.cell;replace yE:=iK.free;have n1:b1≠b2:=fun e=>NC (by simp [e]);have n2:b2≠b1:=fun e=>n1 e.symm;have n3:=BR.ne dL zd;have n4:=BR.ne iK zd;go_wp2_with fail
  refine ((sN _ d _ (dN.dW aR)).mono (by rw [Y8.out];exact fun _ _ h=>h)).mono ?_;rintro e v5 ⟨rfl,mg⟩;replace BR:aC _ (w.heap.size+1) _ _:=aC.later bf mg;(try simp only [List.setIfInBounds_toArray,aG,aH] at BR);replace bT:=BR.cell;replace bS:=BR.free;go_wp2_with fail
  refine aY rfl rfl bf Tryz.underlying73 rfl zk ?_;exact ⟨rfl,aN⟩
theorem FB {g:Nat} (h:g≠1):qM g 1= -1∨qM g 1=1:=by
 unfold qM
 by_cases h2:g<1
 ·rw [if_pos h2];exact .inl rfl
 ·rw [if_neg h2,if_pos zo];exact .inr rfl
theorem AZ (n d:Int) (hl1:(Lib.decDigits n.natAbs).length≤600) (hl2:(Lib.decDigits d.natAbs).length≤600) (hd:0<d) (hg:n.natAbs.gcd d.natAbs≠1) (w:World) :
  Calls Tryz.prog 47 #[au #[O ⟨(Lib.itoa n).toArray⟩,O ⟨(Lib.itoa d).toArray⟩]] w (oK w):=by
 have HC:=zh (jM (s:=⟨(Lib.itoa n).toArray⟩) (eF hl1));have HD:=zh (jM (s:=⟨(Lib.itoa d).toArray⟩) (eF hl2));have SF:=zh hl1;have HL2:=zh hl2;have S1:=zh (jB (dZ.2 hl1));have S2:=zh (jB (dZ.2 hl2));have hsg:rR d=1:=by unfold rR;rw [if_neg zo,if_neg zo]
 have hdf:decide (d<0)=false:=by simp;omega
 have Y8:=zh hsg;have hs:=FB hg;obtain ⟨g,Eg⟩:∃ y:Nat,Hid (n.natAbs.gcd d.natAbs=y):=⟨_,zh rfl⟩;rw [Eg.out] at hs;clear hl1 hl2 hd hg hsg hdf
 rcases hs with hs|hs
 all_goals
  have HS:=zh hs;clear hs;go_enter Tryz.func47,Tryz.ntmps47
  go_wp2_with fail
  refine (HC.out _).mono ?_;rintro e v1 ⟨rfl,hc1⟩;have BR:=aC.later (aC.nS _ _ _ _) hc1;have bT:=BR.cell;have bS:=BR.free;have B0:=aC.later (aC.alloc (aC.new _ _ _) _) hc1;have cB0:=B0.cell;have jI:=B0.free;go_wp2_with fail
  refine (HD.out _).mono ?_;rintro e v2 ⟨rfl,hc2⟩;replace BR:=aC.later (BR) hc2;replace bT:=BR.cell;replace bS:=BR.free;replace B0:=aC.later (B0) hc2;replace cB0:=B0.cell;replace jI:=B0.free;go_wp2_with fail
  refine aT [(.pure,0),(.read,1),(.pure,3),(.read,4),(.ext,2),(.ext,5),(.alloc #[aj none 0 0,ay false] 71,6),(.alloc #[aj none 0 0,ay false] 71,7),(.fin,8),(.fin,9)] zk zk zR zP ?_;refine zV ?_;refine aW rfl rfl (fun w3 hb3 J hJ=>?_);go_simp;replace BR:=aC.later (aC.drew BR) hb3;replace bT:=BR.cell;replace bS:=BR.free;replace B0:=aC.later (aC.drew B0) hb3;replace cB0:=B0.cell;replace jI:=B0.free;refine (jw n SF.out _).mono ?_;rintro e v3 ⟨v,rfl,hc3,hv⟩;obtain ⟨P9,Zy,QU,rfl,HN⟩:=hv;replace HN:=zh HN;replace BR:=aC.later (BR) hc3;replace bT:=BR.cell;replace bS:=BR.free;replace B0:=aC.later (B0) hc3;replace cB0:=B0.cell;replace jI:=B0.free;refine hJ _ _ hc3 ?_;clear hJ J;refine aW rfl rfl (fun w4 hb4 J hJ=>?_);go_simp;replace BR:=aC.later (BR) hb4;replace bT:=BR.cell;replace bS:=BR.free
  replace B0:=aC.later (B0) hb4;replace cB0:=B0.cell;replace jI:=B0.free;refine (jw d HL2.out _).mono ?_;rintro e v4 ⟨v,rfl,hc4,hv⟩;obtain ⟨Qa,Zz,QV,rfl,HM⟩:=hv;replace HM:=zh HM;replace BR:=aC.later (BR) hc4;replace bT:=BR.cell;replace bS:=BR.free;replace B0:=aC.later (B0) hc4;replace cB0:=B0.cell;replace jI:=B0.free;refine hJ _ _ hc4 ?_;clear hJ J;refine gP rfl (fun b1 w5 V6 Gr Nu Uj dL=>?_);go_simp;replace dL:aC _ _ _ _:=dL;have Uh:w.heap.size≤b1:=(by first|omega|exact aB (Below.size (B:=w.heap.size) aN) Gr);replace BR:=aC.later (BR) V6;replace bT:=BR.cell;replace bS:=BR.free;refine gP rfl (fun b2 w6 R6 Ny R9 NC iK=>?_);go_simp;replace iK:aC _ _ _ _:=iK;have Yr:w.heap.size≤b2:=(by first|omega|exact aB (Below.size (B:=w.heap.size) aN) Ny)
  replace BR:=aC.later (BR) R6;replace bT:=BR.cell;replace bS:=BR.free;replace dL:=aC.later (dL) R6;replace nk:=dL.cell;replace mZ:=dL.free;refine dG [_,_] rfl (fun w7 og=>?_);replace BR:=aC.later (BR) og;replace bT:=BR.cell;replace bS:=BR.free;replace dL:=aC.later (dL) og;replace nk:=dL.cell;replace mZ:=dL.free;replace iK:=aC.later (iK) og;replace yM:=iK.cell;replace yE:=iK.free;have n1:b1≠b2:=fun e=>NC (by simp [e]);have n2:b2≠b1:=fun e=>n1 e.symm;have n3:=BR.ne dL zd;have n4:=BR.ne iK zd;go_wp2_with fail
  refine ((sN _ d _ (dN.dW aR)).mono (by rw [Y8.out];exact fun _ _ h=>h)).mono ?_;rintro e v5 ⟨rfl,mg⟩;replace HN:=zh (bC.carry HN.out aR mg);replace HM:=zh (bC.carry HM.out aR mg);replace dL:aC _ (b1) _ _:=aC.later bf mg;(try simp only [List.setIfInBounds_toArray,aG,aH] at dL);replace nk:=dL.cell;replace mZ:=dL.free;replace iK:aC _ (b2) _ _:=aC.later bf mg;(try simp only [List.setIfInBounds_toArray,aG,aH] at iK);replace yM:=iK.cell;replace yE:=iK.free;replace BR:aC _ (w.heap.size+1) _ _:=aC.later bf mg;(try simp only [List.setIfInBounds_toArray,aG,aH] at BR);replace bT:=BR.cell;replace bS:=BR.free;go_wp2_with fail
  refine ((rZ _ _ n.natAbs d.natAbs _ aR aR (aB S1.out zo) (aB S2.out zo)).mono (by rw [Eg.out];exact fun _ _ h=>h)).mono ?_;rintro e v6 ⟨v,rfl,hc6,hv⟩;obtain ⟨ab1,lHG,af7,rfl⟩:=hv.slice;have HG:=zh hv;clear hv;replace HN:=zh (bC.later HN.out hc6);replace HM:=zh (bC.later HM.out hc6);replace dL:=aC.later (dL) hc6;replace nk:=dL.cell;replace mZ:=dL.free;replace iK:=aC.later (iK) hc6;replace yM:=iK.cell;replace yE:=iK.free;replace BR:=aC.later (BR) hc6;replace bT:=BR.cell;replace bS:=BR.free;go_wp2_with fail
  refine ((ji _ _ g 1 _ aR (bC.lit zo zo)).mono (by rw [HS.out];exact fun _ _ h=>h)).mono ?_;rintro e v7 ⟨rfl,sG⟩;replace BR:aC _ (w.heap.size+1) _ _:=aC.later bf sG;(try simp only [List.setIfInBounds_toArray,aG,aH] at BR);replace bT:=BR.cell;replace bS:=BR.free;go_wp2_with fail
  refine aY rfl rfl bf Tryz.underlying73 rfl zk ?_;exact ⟨rfl,aN⟩
theorem JD (a:Fr) (h:rd a=none) (w:World):Calls Tryz.prog 47 #[a.v] w (oK w):=by
 obtain ⟨s,t⟩:=a
 show Calls _ _ #[au #[O s,O t]] _ _
 unfold rd at h;simp only at h;cases e1:Dec.whole s.data.toList with
 | none=>exact FL s t e1 w
 | some n =>
  cases e2:Dec.whole t.data.toList with
  | none=>exact FM s t n e1 e2 w
  | some d =>
   rw [e1,e2] at h;simp only at h;obtain ⟨h1,h2⟩:=mK e1;obtain ⟨h3,h4⟩:=mK e2;have hs:s=⟨(Lib.itoa n).toArray⟩:=BA h1;have ht:t=⟨(Lib.itoa d).toArray⟩:=BA h3;rw [hs,ht]
   by_cases hd:0<d
   ·refine AZ n d h2 h4 hd (fun e=>?_) w;rw [dif_pos ⟨hd,e⟩] at h;cases h
   ·exact zB n d h2 h4 zo w
end Go.Proofs.dD
