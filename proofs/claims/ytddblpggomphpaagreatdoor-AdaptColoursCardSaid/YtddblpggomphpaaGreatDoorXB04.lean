/- Lemmas for the proof. No condition. -/
import Derived.Test.YtddblpggomphpaaGreatDoorXB01
import Derived.Test.YtddblpggomphpaaGreatDoorXB02
import Derived.Test.YtddblpggomphpaaGreatDoorXB03
set_option linter.unusedVariables false
set_option linter.unusedSimpArgs false
set_option maxRecDepth 100000
set_option maxHeartbeats 16000000
namespace Go.Proofs.dJ
open Go Go.RowKit Go.SW Go.Num Go.Mem Go.Proofs Go.Dec Go.dB
theorem wH (v:Value) (z:Int) (w:World) (h:aZ w v z) :
  Calls Tryz.prog 138 #[v] w (fun e w'=>e= .returned (.int .i64 (uQ z))∧Below w.heap.size w w'):=by
 obtain ⟨Iq,lH,Jy,rfl,H⟩:=h;replace H:=zh H
 rcases Int.lt_trichotomy z 0 with hz|hz|hz
 ·have e:uQ z= -1:=by unfold uQ;rw [if_neg zo,if_pos hz]
  rw [e,decide_eq_true hz]
  have h0:decide (z.natAbs=0)=false:=by simp;omega
  go_enter Tryz.func138,Tryz.ntmps138
  go_wp2_with (go_at_call 141;refine (iq _ z.natAbs _ aH).mono ?_;rintro e w1 ⟨rfl,rfl⟩;rw [h0])
  go_ret
  exact ⟨rfl,aA⟩
 ·subst hz
  go_enter Tryz.func138,Tryz.ntmps138
  go_wp2_with (go_at_call 141;refine (iq _ (Int.natAbs 0) _ aH).mono ?_;rintro e w1 ⟨rfl,rfl⟩)
  go_ret
  exact ⟨rfl,aA⟩
 ·have e:uQ z=1:=by unfold uQ;rw [if_neg zo,if_neg zo]
  rw [e,decide_eq_false (show ¬ z<0 by omega)]
  have h0:decide (z.natAbs=0)=false:=by simp;omega
  go_enter Tryz.func138,Tryz.ntmps138
  go_wp2_with (go_at_call 141;refine (iq _ z.natAbs _ aH).mono ?_;rintro e w1 ⟨rfl,rfl⟩;rw [h0])
  go_ret
  exact ⟨rfl,aA⟩
theorem K9 (v:Value) (q:Rat) (w:World) (h:eF w v q) :
  Calls Tryz.prog 195 #[v] w (fun e w'=>∃ v,e= .returned v∧Below w.heap.size w w'∧eF w' v (-q)):=by
 obtain ⟨Iq,lH,Jy,YZ,mH,cbH,rfl,H,Hd⟩:=h;replace H:=zh H;replace Hd:=zh Hd
 go_enter Tryz.func195,Tryz.ntmps195
 go_wp2_with fail
 refine aC [(.pure,0),(.read,1),(.pure,3),(.read,4),(.ext,2),(.pure,5),(.fin,6)] zk zk zR zP ?_
 repeat (first|(refine ah rfl rfl fun J h=>?_;go_simp;refine h _ ?_;clear h J)|(refine au rfl rfl rfl rfl fun J h=>?_;go_simp;refine h _ ?_;clear h J;try go_simp))
 refine aD rfl rfl (fun w1 hb1 J hJ=>?_);go_simp
 have BR:=aB.later (aB.drew (aB.mg _ _ _ _)) hb1;have bJ:=BR.cell;have bI:=BR.free
 refine (oZ _ q.num _ (aZ.aW aH)).mono ?_
 rintro e v1 ⟨v,rfl,hc1,hv⟩
 obtain ⟨Vx,lHS,WW,rfl,HS⟩:=hv;replace HS:=zh HS
 replace BR:=aB.later (BR) hc1;replace bJ:=BR.cell;replace bI:=BR.free
 refine hJ _ _ hc1 ?_
 clear hJ J
 repeat (first|(refine ah rfl rfl fun J h=>?_;go_simp;refine h _ ?_;clear h J)|(refine au rfl rfl rfl rfl fun J h=>?_;go_simp;refine h _ ?_;clear h J;try go_simp))
 refine aJ [_] rfl (fun w5 hb5=>?_)
 replace BR:=aB.later (BR) hb5;replace bJ:=BR.cell;replace bI:=BR.free
 go_wp2_with fail
 refine bP rfl rfl aL Tryz.underlying125 rfl zk ?_
 exact ⟨_,rfl,aA,eF.mk (-q.num).natAbs q.den aH aH rfl rfl (by simp [Rat.neg_num])⟩
theorem Ld (v:Value) (q:Rat) (w:World) (h:eF w v q) (hq:q≠0) :
  Calls Tryz.prog 143 #[v] w (fun e w'=>∃ v,e= .returned v∧Below w.heap.size w w'∧eF w' v q⁻¹):=by
 obtain ⟨Iq,lH,Jy,YZ,mH,cbH,rfl,H,Hd⟩:=h;replace H:=zh H;replace Hd:=zh Hd
 have HE:=zh (Pw hq)
 clear hq
 go_enter Tryz.func143,Tryz.ntmps143
 go_wp2_with fail
 refine aC [(.pure,0),(.read,1),(.pure,2),(.pure,3),(.read,4),(.pure,6),(.pure,7),(.read,8),(.ext,5),(.pure,9),(.fin,10)] zk zk zR zP ?_
 repeat (first|(refine ah rfl rfl fun J h=>?_;go_simp;refine h _ ?_;clear h J)|(refine au rfl rfl rfl rfl fun J h=>?_;go_simp;refine h _ ?_;clear h J;try go_simp))
 refine aD rfl rfl (fun w1 hb1 J hJ=>?_);go_simp
 have BR:=aB.later (aB.drew (aB.mg _ _ _ _)) hb1;have bJ:=BR.cell;have bI:=BR.free
 refine (eH _ q.den _ _ aH).mono ?_
 rintro e v1 ⟨v,rfl,hc1,hv⟩
 obtain ⟨Vx,lHS,WW,rfl,HS⟩:=hv;replace HS:=zh HS
 replace BR:=aB.later (BR) hc1;replace bJ:=BR.cell;replace bI:=BR.free
 refine hJ _ _ hc1 ?_
 clear hJ J
 repeat (first|(refine ah rfl rfl fun J h=>?_;go_simp;refine h _ ?_;clear h J)|(refine au rfl rfl rfl rfl fun J h=>?_;go_simp;refine h _ ?_;clear h J;try go_simp))
 refine aJ [_] rfl (fun w5 hb5=>?_)
 replace BR:=aB.later (BR) hb5;replace bJ:=BR.cell;replace bI:=BR.free
 go_wp2_with fail
 refine bP rfl rfl aL Tryz.underlying125 rfl zk ?_
 exact ⟨_,rfl,aA,eF.mk (je q.den (decide (q.num<0))).natAbs q.num.natAbs aH aH (by rw [HE.out.1]) HE.out.2.symm (by rw [HE.out.1])⟩
theorem sI (x y:Value) (p q:Rat) (w:World) (hx:eF w x p) (hy:eF w y q) (kp:eP 1000000 p) (kq:eP 1000000 q) :
  Calls Tryz.prog 76 #[x,y] w (fun e w'=>e= .returned (.int .i64 (iA p q))∧Below w.heap.size w w'):=by
 obtain ⟨Iq,lH,Jy,YZ,mH,cbH,rfl,H,Hd⟩:=hx;replace H:=zh H;replace Hd:=zh Hd
 obtain ⟨Qz,lG,QL,pbG,mG,cbG,rfl,G,Gd⟩:=hy;replace G:=zh G;replace Gd:=zh Gd
 rw [← AL]
 have k1:=kg p.num q.den
 have k2:=kg q.num p.den
 obtain ⟨kp1,kp2⟩:=kp
 obtain ⟨kq1,kq2⟩:=kq
 obtain ⟨y1,Ey1⟩:∃ y:Int,Hid (p.num*(q.den:Int)=y):=⟨_,zh rfl⟩
 obtain ⟨y2,Ey2⟩:∃ y:Int,Hid (q.num*(p.den:Int)=y):=⟨_,zh rfl⟩
 obtain ⟨y3,Ey3⟩:∃ y:Int,Hid (-y2=y):=⟨_,zh rfl⟩
 obtain ⟨y4,Ey4⟩:∃ y:Int,Hid (y1+y3=y):=⟨_,zh rfl⟩
 rw [Ey1.out,Ey2.out,Ey3.out,Ey4.out]
 rw [Ey1.out] at k1
 rw [Ey2.out] at k2
 have k3:sz 1000000000 y3.natAbs=sz 1000000000 y2.natAbs:=by rw [← Ey3.out,Int.natAbs_neg]
 have K1:Hid (sz 1000000000 y1.natAbs≤549755813888):=by unfold Hid;omega
 have K3:Hid (sz 1000000000 y3.natAbs≤549755813888):=by unfold Hid;omega
 have KP1:=zh kp1
 have KP2:=zh kp2
 have KQ1:=zh kq1
 have KQ2:=zh kq2
 clear kp1 kp2 kq1 kq2 k1 k2 k3
 go_enter Tryz.func76,Tryz.ntmps76
 go_wp2_with fail
 refine aC [(.pure,0),(.read,1),(.pure,2),(.read,3),(.pure,5),(.read,6),(.pure,7),(.read,8),(.ext,4),(.ext,9),(.ext,10),(.ext,11),(.ext,12),(.fin,13)] zk zk zR zP ?_
 repeat (first|(refine ah rfl rfl fun J h=>?_;go_simp;refine h _ ?_;clear h J)|(refine au rfl rfl rfl rfl fun J h=>?_;go_simp;refine h _ ?_;clear h J;try go_simp))
 refine aD rfl rfl (fun w1 hb1 J hJ=>?_);go_simp
 refine ((lK _ _ p.num q.den _ (aZ.aW aH) aH (Nat.le_trans KP1.out zo) (Nat.le_trans KQ2.out zo)).mono (by rw [Ey1.out];exact fun _ _ h=>h)).mono ?_
 rintro e v1 ⟨v,rfl,hc1,hv⟩
 obtain ⟨aR9,lHA,aY4,rfl,HA⟩:=hv;replace HA:=zh HA
 refine hJ _ _ hc1 ?_
 clear hJ J
 refine aD rfl rfl (fun w2 hb2 J hJ=>?_);go_simp
 refine ((lK _ _ q.num p.den _ (aZ.aW aH) aH (Nat.le_trans KQ1.out zo) (Nat.le_trans KP2.out zo)).mono (by rw [Ey2.out];exact fun _ _ h=>h)).mono ?_
 rintro e v2 ⟨v,rfl,hc2,hv⟩
 obtain ⟨aR8,lHB,aY3,rfl,HB⟩:=hv;replace HB:=zh HB
 refine hJ _ _ hc2 ?_
 clear hJ J
 refine aD rfl rfl (fun w3 hb3 J hJ=>?_);go_simp
 refine ((oZ _ y2 _ (aZ.aW aH)).mono (by rw [Ey3.out];exact fun _ _ h=>h)).mono ?_
 rintro e v3 ⟨v,rfl,hc3,hv⟩
 obtain ⟨aC8,lHC,aI3,rfl,HC⟩:=hv;replace HC:=zh HC
 refine hJ _ _ hc3 ?_
 clear hJ J
 refine aD rfl rfl (fun w4 hb4 J hJ=>?_);go_simp
 refine ((vH _ _ y1 y3 _ (aZ.aW aH) (aZ.aW aH) K1.out K3.out).mono (by rw [Ey4.out];exact fun _ _ h=>h)).mono ?_
 rintro e v4 ⟨v,rfl,hc4,hv⟩
 obtain ⟨Pj,lHD,Qf,rfl,HD⟩:=hv;replace HD:=zh HD
 refine hJ _ _ hc4 ?_
 clear hJ J
 refine aD rfl rfl (fun w5 hb5 J hJ=>?_);go_simp
 refine (wH _ y4 _ (aZ.aW aH)).mono ?_
 rintro e v5 ⟨rfl,kZ⟩
 refine hJ _ _ kZ ?_
 clear hJ J
 refine aJ [_] rfl (fun w5 hb5=>?_)
 go_wp2_with fail
 go_ret
 exact ⟨rfl,aA⟩
theorem Kv (x y:Value) (n:Int) (d:Nat) (w:World) (hx:aZ w x n) (hy:aM w y d) (hd:0<d) (kn:sz 1000000000 n.natAbs≤549755813888) (kd:sz 1000000000 d≤549755813888) :
  Calls Tryz.prog 169 #[x,y] w (fun e w'=>∃ v,e= .returned v∧Below w.heap.size w w'∧eF w' v (mkRat n d)):=by
 obtain ⟨Iq,lH,Jy,rfl,H⟩:=hx;replace H:=zh H
 obtain ⟨Qz,lG,QL,rfl⟩:=hy.slice;have G:=zh hy;clear hy
 have HP:=zh (wN n hd)
 have hg:0<n.natAbs.gcd d:=Nat.gcd_pos_of_pos_right _ hd
 obtain ⟨g,Eg⟩:∃ y:Nat,Hid (n.natAbs.gcd d=y):=⟨_,zh rfl⟩
 obtain ⟨a,Ea⟩:∃ y:Nat,Hid (n.natAbs / g=y):=⟨_,zh rfl⟩
 obtain ⟨b,Eb⟩:∃ y:Nat,Hid (d / g=y):=⟨_,zh rfl⟩
 rw [Eg.out] at HP hg
 rw [Ea.out,Eb.out] at HP
 have KN:=zh kn
 have KD:=zh kd
 have HG:=zh hg
 clear kn kd hg hd
 go_enter Tryz.func169,Tryz.ntmps169
 go_wp2_with fail
 refine ((nC _ _ n.natAbs d _ aH aH KN.out KD.out).mono (by rw [Eg.out];exact fun _ _ h=>h)).mono ?_
 rintro e v1 ⟨v,rfl,hc1,hv⟩
 obtain ⟨RB,lHg,Ug,rfl⟩:=hv.slice;have Hg:=zh hv;clear hv
 have BR:=aB.later (aB.mg _ _ _ _) hc1;have bJ:=BR.cell;have bI:=BR.free
 have B0:=aB.later (aB.alloc (aB.new _ _ _) _) hc1;have cB0:=B0.cell;have j4:=B0.free
 go_wp2_with fail
 refine ((dD _ _ n.natAbs g _ aH aH HG.out KN.out).mono (by rw [Ea.out];exact fun _ _ h=>h)).mono ?_
 rintro e v2 ⟨v,vr,rfl,hc2,hv,jf⟩
 obtain ⟨aR3,lHa,aX8,rfl⟩:=hv.slice;have Ha:=zh hv;clear hv;obtain ⟨aK1,aT5,aL9,rfl⟩:=jf.slice;have Har:=zh jf;clear jf
 replace BR:=aB.later (BR) hc2;replace bJ:=BR.cell;replace bI:=BR.free
 replace B0:=aB.later (B0) hc2;replace cB0:=B0.cell;replace j4:=B0.free
 go_wp2_with fail
 refine ((dD _ _ d g _ aH aH HG.out KD.out).mono (by rw [Eb.out];exact fun _ _ h=>h)).mono ?_
 rintro e v3 ⟨v,vr,rfl,hc3,hv,jf⟩
 obtain ⟨Y7,lHb,ag0,rfl⟩:=hv.slice;have Hb:=zh hv;clear hv;obtain ⟨RD,Zv,Uh,rfl⟩:=jf.slice;have Hbr:=zh jf;clear jf
 replace BR:=aB.later (BR) hc3;replace bJ:=BR.cell;replace bI:=BR.free
 replace B0:=aB.later (B0) hc3;replace cB0:=B0.cell;replace j4:=B0.free
 go_wp2_with fail
 refine (eH _ a _ _ aH).mono ?_
 rintro e v4 ⟨v,rfl,hc4,hv⟩
 obtain ⟨Pg,lHs,Qd,rfl,Hs⟩:=hv;replace Hs:=zh Hs
 replace BR:=aB.later (BR) hc4;replace bJ:=BR.cell;replace bI:=BR.free
 replace B0:=aB.later (B0) hc4;replace cB0:=B0.cell;replace j4:=B0.free
 go_wp2_with fail
 refine bP rfl rfl aL Tryz.underlying125 rfl zk ?_
 exact ⟨_,rfl,aA,eF.mk (je a (decide (n<0))).natAbs b aH aH (by rw [HP.out.1]) HP.out.2.symm (by rw [HP.out.1])⟩
theorem jO (v:Value) (q:Rat) (w:World) (h:eF w v q) (k:eP 1000000 q) (ht:pR.Pow w) :
  Calls Tryz.prog 144 #[v] w (fun e w'=>e= .returned (Fr.res (wr q))∧Below w.heap.size w w'):=by
 obtain ⟨Iq,lH,Jy,YZ,mH,cbH,rfl,H,Hd⟩:=h;replace H:=zh H;replace Hd:=zh Hd
 have HT:=zh ht
 have K1:=zh k.1
 have K2:=zh k.2
 clear ht k
 rcases Nat.lt_or_ge 600 (Lib.decDigits q.num.natAbs).length with h1|h1
 ·rw [rY (by unfold dA;rw [FJ h1];rfl)]
  go_enter Tryz.func144,Tryz.ntmps144
  go_wp2_with fail
  refine (iH _ q.num.natAbs _ aH (Nat.le_trans K1.out zo) (HT.out.later aA)).mono ?_
  rintro e v1 ⟨rfl,hc1⟩
  have BR:=aB.later (aB.mg _ _ _ _) hc1;have bJ:=BR.cell;have bI:=BR.free
  have B0:=aB.later (aB.alloc (aB.new _ _ _) _) hc1;have cB0:=B0.cell;have j4:=B0.free
  go_wp2_with fail
  refine aP rfl rfl aL Tryz.underlying36 rfl zk ?_
  exact ⟨rfl,aA⟩
 ·rcases Nat.lt_or_ge 600 (Lib.decDigits q.den).length with h2|h2
  ·rw [rY (by unfold dA;rw [FJ h2,Bool.and_false])]
   go_enter Tryz.func144,Tryz.ntmps144
   go_wp2_with fail
   refine (iH _ q.num.natAbs _ aH (Nat.le_trans K1.out zo) (HT.out.later aA)).mono ?_
   rintro e v1 ⟨rfl,hc1⟩
   have BR:=aB.later (aB.mg _ _ _ _) hc1;have bJ:=BR.cell;have bI:=BR.free
   have B0:=aB.later (aB.alloc (aB.new _ _ _) _) hc1;have cB0:=B0.cell;have j4:=B0.free
   go_wp2_with fail
   refine (iH _ q.den _ aH (Nat.le_trans K2.out zo) (HT.out.later aA)).mono ?_
   rintro e v2 ⟨rfl,hc2⟩
   replace BR:=aB.later (BR) hc2;replace bJ:=BR.cell;replace bI:=BR.free
   replace B0:=aB.later (B0) hc2;replace cB0:=B0.cell;replace j4:=B0.free
   go_wp2_with fail
   refine aP rfl rfl aL Tryz.underlying36 rfl zk ?_
   exact ⟨rfl,aA⟩
  ·rw [Xz (by unfold dA;rw [fE.2 h1,fE.2 h2];rfl)]
   go_enter Tryz.func144,Tryz.ntmps144
   go_wp2_with fail
   refine (iH _ q.num.natAbs _ aH (Nat.le_trans K1.out zo) (HT.out.later aA)).mono ?_
   rintro e v1 ⟨rfl,hc1⟩
   have BR:=aB.later (aB.mg _ _ _ _) hc1;have bJ:=BR.cell;have bI:=BR.free
   have B0:=aB.later (aB.alloc (aB.new _ _ _) _) hc1;have cB0:=B0.cell;have j4:=B0.free
   go_wp2_with fail
   refine (iH _ q.den _ aH (Nat.le_trans K2.out zo) (HT.out.later aA)).mono ?_
   rintro e v2 ⟨rfl,hc2⟩
   replace BR:=aB.later (BR) hc2;replace bJ:=BR.cell;replace bI:=BR.free
   replace B0:=aB.later (B0) hc2;replace cB0:=B0.cell;replace j4:=B0.free
   go_wp2_with fail
   refine aC [(.pure,0),(.read,1),(.pure,3),(.read,4),(.ext,2),(.ext,5),(.pure,6),(.fin,7),(.fin,8)] zk zk zR zP ?_
   repeat (first|(refine ah rfl rfl fun J h=>?_;go_simp;refine h _ ?_;clear h J)|(refine au rfl rfl rfl rfl fun J h=>?_;go_simp;refine h _ ?_;clear h J;try go_simp))
   refine aD rfl rfl (fun w3 hb3 J hJ=>?_);go_simp
   replace BR:=aB.later (aB.drew BR) hb3;replace bJ:=BR.cell;replace bI:=BR.free
   refine ((Fq _ q.num _ (aZ.aW aH) (Nat.le_trans K1.out zo) (HT.out.later aA)).mono (fun _ _ h=>by unfold sO at h;exact h)).mono ?_
   rintro e v3 ⟨rfl,hc3⟩
   replace BR:=aB.later (BR) hc3;replace bJ:=BR.cell;replace bI:=BR.free
   refine hJ _ _ hc3 ?_
   clear hJ J
   refine aD rfl rfl (fun w4 hb4 J hJ=>?_);go_simp
   replace BR:=aB.later (BR) hb4;replace bJ:=BR.cell;replace bI:=BR.free
   refine (qE _ q.den _ aH (Nat.le_trans K2.out zo) (HT.out.later aA)).mono ?_
   rintro e v4 ⟨rfl,hc4⟩
   replace BR:=aB.later (BR) hc4;replace bJ:=BR.cell;replace bI:=BR.free
   refine hJ _ _ hc4 ?_
   clear hJ J
   repeat (first|(refine ah rfl rfl fun J h=>?_;go_simp;refine h _ ?_;clear h J)|(refine au rfl rfl rfl rfl fun J h=>?_;go_simp;refine h _ ?_;clear h J;try go_simp))
   refine aJ [_,_] rfl (fun w5 hb5=>?_)
   replace BR:=aB.later (BR) hb5;replace bJ:=BR.cell;replace bI:=BR.free
   go_wp2_with fail
   refine aP rfl rfl aL Tryz.underlying36 rfl zk ?_
   exact ⟨rfl,aA⟩
def JL (w:World) (q:Rat) (e:Ending) (w':World):Prop:=∃ v,e= .returned (.tuple #[v,.bool true])∧Below w.heap.size w w'∧eF w' v q
def qL (w:World) (e:Ending) (w':World):Prop:=e= .returned (.tuple #[.agg #[.slice none 0 0,.bool false,.slice none 0 0],.bool false])∧Below w.heap.size w w'
theorem jH {s:ByteArray} {z:Int} (h:Dec.whole s.data.toList=some z) (w:World):Calls Tryz.prog 167 #[.string s] w (fun e w'=>e= .returned (.int .i64 0)∧Below w.heap.size w w'):=by
 have:=whole.qH s w
 rw [h] at this
 exact this
theorem Jq {s:ByteArray} (h:Dec.whole s.data.toList=none) (w:World):Calls Tryz.prog 167 #[.string s] w (fun e w'=>e= .returned (.int .i64 10)∧Below w.heap.size w w'):=by
 have:=whole.qH s w
 rw [h] at this
 exact this
theorem Kw (s t:ByteArray) (h:Dec.whole s.data.toList=none) (w:World) :
  Calls Tryz.prog 134 #[.agg #[.string s,.string t]] w (qL w):=by
 have HC:=zh (Jq h)
 clear h
 go_enter Tryz.func134,Tryz.ntmps134
 go_wp2_with fail
 refine (HC.out _).mono ?_
 rintro e v1 ⟨rfl,hc1⟩
 have BR:=aB.later (aB.mg _ _ _ _) hc1;have bJ:=BR.cell;have bI:=BR.free
 have B0:=aB.later (aB.alloc (aB.new _ _ _) _) hc1;have cB0:=B0.cell;have j4:=B0.free
 go_wp2_with fail
 refine aP rfl rfl aL Tryz.underlying125 rfl zk ?_
 exact ⟨rfl,aA⟩
theorem Ky (s t:ByteArray) (n:Int) (hn:Dec.whole s.data.toList=some n) (h:Dec.whole t.data.toList=none) (w:World) :
  Calls Tryz.prog 134 #[.agg #[.string s,.string t]] w (qL w):=by
 have HC:=zh (jH hn)
 have HD:=zh (Jq h)
 clear h hn
 go_enter Tryz.func134,Tryz.ntmps134
 go_wp2_with fail
 refine (HC.out _).mono ?_
 rintro e v1 ⟨rfl,hc1⟩
 have BR:=aB.later (aB.mg _ _ _ _) hc1;have bJ:=BR.cell;have bI:=BR.free
 have B0:=aB.later (aB.alloc (aB.new _ _ _) _) hc1;have cB0:=B0.cell;have j4:=B0.free
 go_wp2_with fail
 refine (HD.out _).mono ?_
 rintro e v2 ⟨rfl,hc2⟩
 replace BR:=aB.later (BR) hc2;replace bJ:=BR.cell;replace bI:=BR.free
 replace B0:=aB.later (B0) hc2;replace cB0:=B0.cell;replace j4:=B0.free
 go_wp2_with fail
 refine aP rfl rfl aL Tryz.underlying125 rfl zk ?_
 exact ⟨rfl,aA⟩
theorem O4 (q:Rat) (hq:dA q=true) (w:World) :
  Calls Tryz.prog 134 #[(Fr.of q).v] w (JL w q):=by
 show Calls _ _ #[.agg #[.string ⟨(Lib.itoa q.num).toArray⟩,.string ⟨(Lib.itoa (q.den:Int)).toArray⟩]] _ _
 have hs:=gL hq
 have hl:(Lib.decDigits q.num.natAbs).length≤600∧(Lib.decDigits ((q.den:Nat):Int).natAbs).length≤600:=by
  unfold dA at hq
  rw [Bool.and_eq_true,fE,fE] at hq
  exact ⟨hq.1,(Int.natAbs_natCast q.den).symm ▸ hq.2⟩
 obtain ⟨hl1,hl2⟩:=hl
 have hd:=q.den_pos
 have hr:=q.reduced
 have HC:=zh (jH (s:=⟨(Lib.itoa q.num).toArray⟩) (dX hl1))
 have HD:=zh (jH (s:=⟨(Lib.itoa (q.den:Int)).toArray⟩) (dX hl2))
 have U5:=zh hl1
 have HL2:=zh hl2
 have HR:=zh hr
 have S1:=zh hs.1
 have S2:=zh hs.2
 obtain ⟨d,Ed⟩:∃ y:Int,Hid ((q.den:Int)=y):=⟨_,zh rfl⟩
 have hdn:d.natAbs=q.den:=by rw [← Ed.out,Int.natAbs_natCast]
 have hd1:0<d:=by rw [← Ed.out];omega
 have hsg:uQ d=1:=by unfold uQ;rw [if_neg zo,if_neg zo]
 have hdf:decide (d<0)=false:=by simp;omega
 have HDN:=zh hdn
 have EN:=zh hsg
 have HDF:=zh hdf
 have HR1:Hid (q.num.natAbs.gcd d.natAbs=1):=by unfold Hid;rw [hdn];exact hr
 rw [Ed.out] at HL2 HD ⊢
 clear hq hs hl1 hl2 hr hd hdn hd1 hsg hdf
 go_enter Tryz.func134,Tryz.ntmps134
 go_wp2_with fail
 refine (HC.out _).mono ?_
 rintro e v1 ⟨rfl,hc1⟩
 have BR:=aB.later (aB.mg _ _ _ _) hc1;have bJ:=BR.cell;have bI:=BR.free
 have B0:=aB.later (aB.alloc (aB.new _ _ _) _) hc1;have cB0:=B0.cell;have j4:=B0.free
 go_wp2_with fail
 refine (HD.out _).mono ?_
 rintro e v2 ⟨rfl,hc2⟩
 replace BR:=aB.later (BR) hc2;replace bJ:=BR.cell;replace bI:=BR.free
 replace B0:=aB.later (B0) hc2;replace cB0:=B0.cell;replace j4:=B0.free
 go_wp2_with fail
 refine aC [(.pure,0),(.read,1),(.pure,3),(.read,4),(.ext,2),(.ext,5),(.alloc #[.slice none 0 0,.bool false] 123,6),(.alloc #[.slice none 0 0,.bool false] 123,7),(.fin,8),(.fin,9)] zk zk zR zP ?_
 repeat (first|(refine ah rfl rfl fun J h=>?_;go_simp;refine h _ ?_;clear h J)|(refine au rfl rfl rfl rfl fun J h=>?_;go_simp;refine h _ ?_;clear h J;try go_simp))
 refine aD rfl rfl (fun w3 hb3 J hJ=>?_);go_simp
 replace BR:=aB.later (aB.drew BR) hb3;replace bJ:=BR.cell;replace bI:=BR.free
 replace B0:=aB.later (aB.drew B0) hb3;replace cB0:=B0.cell;replace j4:=B0.free
 refine (fM q.num U5.out _).mono ?_
 rintro e v3 ⟨v,rfl,hc3,hv⟩
 obtain ⟨KO,Zx,LZ,rfl,HN⟩:=hv;replace HN:=zh HN
 replace BR:=aB.later (BR) hc3;replace bJ:=BR.cell;replace bI:=BR.free
 replace B0:=aB.later (B0) hc3;replace cB0:=B0.cell;replace j4:=B0.free
 refine hJ _ _ hc3 ?_
 clear hJ J
 refine aD rfl rfl (fun w4 hb4 J hJ=>?_);go_simp
 replace BR:=aB.later (BR) hb4;replace bJ:=BR.cell;replace bI:=BR.free
 replace B0:=aB.later (B0) hb4;replace cB0:=B0.cell;replace j4:=B0.free
 refine (fM d HL2.out _).mono ?_
 rintro e v4 ⟨v,rfl,hc4,hv⟩
 obtain ⟨Ph,lHM,Qe,rfl,HM⟩:=hv;replace HM:=zh HM
 replace BR:=aB.later (BR) hc4;replace bJ:=BR.cell;replace bI:=BR.free
 replace B0:=aB.later (B0) hc4;replace cB0:=B0.cell;replace j4:=B0.free
 refine hJ _ _ hc4 ?_
 clear hJ J
 refine aQ rfl (fun b1 w5 QF LD SI ae5 dw=>?_);go_simp;replace dw:aB _ _ _ _:=dw;have ad8:w.heap.size≤b1:=(by first|omega|exact Nat.le_trans (Below.size (B:=w.heap.size) aA) LD)
 replace BR:=aB.later (BR) QF;replace bJ:=BR.cell;replace bI:=BR.free
 refine aQ rfl (fun b2 w6 Px Tq XW Tw iE=>?_);go_simp;replace iE:aB _ _ _ _:=iE;have aw4:w.heap.size≤b2:=(by first|omega|exact Nat.le_trans (Below.size (B:=w.heap.size) aA) Tq)
 replace BR:=aB.later (BR) Px;replace bJ:=BR.cell;replace bI:=BR.free;replace dw:=aB.later (dw) Px;replace oH:=dw.cell;replace oF:=dw.free
 refine aJ [_,_] rfl (fun w7 dY=>?_)
 replace BR:=aB.later (BR) dY;replace bJ:=BR.cell;replace bI:=BR.free;replace dw:=aB.later (dw) dY;replace oH:=dw.cell;replace oF:=dw.free;replace iE:=aB.later (iE) dY;replace BS:=iE.cell;replace BJ:=iE.free
 have n1:b1≠b2:=fun e=>Tw (by simp [e])
 have n2:b2≠b1:=fun e=>n1 e.symm
 have n3:=BR.ne dw zd
 have n4:=BR.ne iE zd
 go_wp2_with fail
 refine ((wH _ d _ (aZ.aW aH)).mono (by rw [EN.out];exact fun _ _ h=>h)).mono ?_
 rintro e v5 ⟨rfl,kZ⟩
 replace HN:=zh (aM.carry HN.out aH kZ)
 replace HM:=zh (aM.carry HM.out aH kZ)
 replace dw:aB _ (b1) _ _:=aB.later aL kZ;(try simp only [List.setIfInBounds_toArray,List.set_cons_zero,List.set_cons_succ] at dw);replace oH:=dw.cell;replace oF:=dw.free
 replace iE:aB _ (b2) _ _:=aB.later aL kZ;(try simp only [List.setIfInBounds_toArray,List.set_cons_zero,List.set_cons_succ] at iE);replace BS:=iE.cell;replace BJ:=iE.free
 replace BR:aB _ (w.heap.size+1) _ _:=aB.later aL kZ;(try simp only [List.setIfInBounds_toArray,List.set_cons_zero,List.set_cons_succ] at BR);replace bJ:=BR.cell;replace bI:=BR.free
 go_wp2_with fail
 refine ((nC _ _ q.num.natAbs d.natAbs _ aH aH (Nat.le_trans S1.out zo) (by rw [HDN.out];exact Nat.le_trans S2.out zo)).mono (by rw [HR1.out];exact fun _ _ h=>h)).mono ?_
 rintro e v6 ⟨v,rfl,hc6,hv⟩
 obtain ⟨aC7,lHG,aI2,rfl⟩:=hv.slice;have HG:=zh hv;clear hv
 replace HN:=zh (aM.later HN.out hc6)
 replace HM:=zh (aM.later HM.out hc6)
 replace dw:=aB.later (dw) hc6;replace oH:=dw.cell;replace oF:=dw.free
 replace iE:=aB.later (iE) hc6;replace BS:=iE.cell;replace BJ:=iE.free
 replace BR:=aB.later (BR) hc6;replace bJ:=BR.cell;replace bI:=BR.free
 go_wp2_with fail
 refine ((jC _ _ 1 1 _ aH (aM.lit zo zo)).mono (by rw [sD];exact fun _ _ h=>h)).mono ?_
 rintro e v7 ⟨rfl,Cy⟩
 replace HN:=zh (aM.carry HN.out aH Cy)
 replace HM:=zh (aM.carry HM.out aH Cy)
 replace dw:aB _ (b1) _ _:=aB.later aL Cy;(try simp only [List.setIfInBounds_toArray,List.set_cons_zero,List.set_cons_succ] at dw);replace oH:=dw.cell;replace oF:=dw.free
 replace iE:aB _ (b2) _ _:=aB.later aL Cy;(try simp only [List.setIfInBounds_toArray,List.set_cons_zero,List.set_cons_succ] at iE);replace BS:=iE.cell;replace BJ:=iE.free
 replace BR:aB _ (w.heap.size+1) _ _:=aB.later aL Cy;(try simp only [List.setIfInBounds_toArray,List.set_cons_zero,List.set_cons_succ] at BR);replace bJ:=BR.cell;replace bI:=BR.free
 go_wp2_with fail
 refine aP rfl rfl aL Tryz.underlying125 rfl zk ?_
 refine ⟨_,rfl,aA,eF.mk q.num.natAbs d.natAbs aH aH rfl HDN.out rfl⟩
theorem CV (n d:Int) (hl1:(Lib.decDigits n.natAbs).length≤600) (hl2:(Lib.decDigits d.natAbs).length≤600) (hd:d≤0) (w:World) :
  Calls Tryz.prog 134 #[.agg #[.string ⟨(Lib.itoa n).toArray⟩,.string ⟨(Lib.itoa d).toArray⟩]] w (qL w):=by
 have HC:=zh (jH (s:=⟨(Lib.itoa n).toArray⟩) (dX hl1))
 have HD:=zh (jH (s:=⟨(Lib.itoa d).toArray⟩) (dX hl2))
 have U5:=zh hl1
 have HL2:=zh hl2
 have hs:uQ d=0∨uQ d= -1:=by
  unfold uQ
  by_cases h:d=0
  ·rw [if_pos h];exact .inl rfl
  ·rw [if_neg h,if_pos zo];exact .inr rfl
 clear hl1 hl2 hd
 rcases hs with hs|hs
 all_goals
  have EN:=zh hs
  clear hs
  go_enter Tryz.func134,Tryz.ntmps134
  go_wp2_with fail
  refine (HC.out _).mono ?_
  rintro e v1 ⟨rfl,hc1⟩
  have BR:=aB.later (aB.mg _ _ _ _) hc1;have bJ:=BR.cell;have bI:=BR.free
  have B0:=aB.later (aB.alloc (aB.new _ _ _) _) hc1;have cB0:=B0.cell;have j4:=B0.free
  go_wp2_with fail
  refine (HD.out _).mono ?_
  rintro e v2 ⟨rfl,hc2⟩
  replace BR:=aB.later (BR) hc2;replace bJ:=BR.cell;replace bI:=BR.free
  replace B0:=aB.later (B0) hc2;replace cB0:=B0.cell;replace j4:=B0.free
  go_wp2_with fail
  refine aC [(.pure,0),(.read,1),(.pure,3),(.read,4),(.ext,2),(.ext,5),(.alloc #[.slice none 0 0,.bool false] 123,6),(.alloc #[.slice none 0 0,.bool false] 123,7),(.fin,8),(.fin,9)] zk zk zR zP ?_
  repeat (first|(refine ah rfl rfl fun J h=>?_;go_simp;refine h _ ?_;clear h J)|(refine au rfl rfl rfl rfl fun J h=>?_;go_simp;refine h _ ?_;clear h J;try go_simp))
  refine aD rfl rfl (fun w3 hb3 J hJ=>?_);go_simp
  replace BR:=aB.later (aB.drew BR) hb3;replace bJ:=BR.cell;replace bI:=BR.free
  replace B0:=aB.later (aB.drew B0) hb3;replace cB0:=B0.cell;replace j4:=B0.free
  refine (fM n U5.out _).mono ?_
  rintro e v3 ⟨v,rfl,hc3,hv⟩
  obtain ⟨KO,Zx,LZ,rfl,HN⟩:=hv;replace HN:=zh HN
  replace BR:=aB.later (BR) hc3;replace bJ:=BR.cell;replace bI:=BR.free
  replace B0:=aB.later (B0) hc3;replace cB0:=B0.cell;replace j4:=B0.free
  refine hJ _ _ hc3 ?_
  clear hJ J
  refine aD rfl rfl (fun w4 hb4 J hJ=>?_);go_simp
  replace BR:=aB.later (BR) hb4;replace bJ:=BR.cell;replace bI:=BR.free
  replace B0:=aB.later (B0) hb4;replace cB0:=B0.cell;replace j4:=B0.free
  refine (fM d HL2.out _).mono ?_
  rintro e v4 ⟨v,rfl,hc4,hv⟩
  obtain ⟨Ph,lHM,Qe,rfl,HM⟩:=hv;replace HM:=zh HM
  replace BR:=aB.later (BR) hc4;replace bJ:=BR.cell;replace bI:=BR.free
  replace B0:=aB.later (B0) hc4;replace cB0:=B0.cell;replace j4:=B0.free
  refine hJ _ _ hc4 ?_
  clear hJ J
  refine aQ rfl (fun b1 w5 QF LD SI ae5 dw=>?_);go_simp;replace dw:aB _ _ _ _:=dw;have ad8:w.heap.size≤b1:=(by first|omega|exact Nat.le_trans (Below.size (B:=w.heap.size) aA) LD)
  replace BR:=aB.later (BR) QF;replace bJ:=BR.cell;replace bI:=BR.free
  refine aQ rfl (fun b2 w6 Px Tq XW Tw iE=>?_);go_simp;replace iE:aB _ _ _ _:=iE;have aw4:w.heap.size≤b2:=(by first|omega|exact Nat.le_trans (Below.size (B:=w.heap.size) aA) Tq)
  replace BR:=aB.later (BR) Px;replace bJ:=BR.cell;replace bI:=BR.free;replace dw:=aB.later (dw) Px;replace oH:=dw.cell;replace oF:=dw.free
  refine aJ [_,_] rfl (fun w7 dY=>?_)
  replace BR:=aB.later (BR) dY;replace bJ:=BR.cell;replace bI:=BR.free;replace dw:=aB.later (dw) dY;replace oH:=dw.cell;replace oF:=dw.free;replace iE:=aB.later (iE) dY;replace BS:=iE.cell;replace BJ:=iE.free
  have n1:b1≠b2:=fun e=>Tw (by simp [e])
  have n2:b2≠b1:=fun e=>n1 e.symm
  have n3:=BR.ne dw zd
  have n4:=BR.ne iE zd
  go_wp2_with fail
  refine ((wH _ d _ (aZ.aW aH)).mono (by rw [EN.out];exact fun _ _ h=>h)).mono ?_
  rintro e v5 ⟨rfl,kZ⟩
  replace BR:aB _ (w.heap.size+1) _ _:=aB.later aL kZ;(try simp only [List.setIfInBounds_toArray,List.set_cons_zero,List.set_cons_succ] at BR);replace bJ:=BR.cell;replace bI:=BR.free
  go_wp2_with fail
  refine aP rfl rfl aL Tryz.underlying125 rfl zk ?_
  exact ⟨rfl,aA⟩
theorem Kn {g:Nat} (h:g≠1):wC g 1= -1∨wC g 1=1:=by
 unfold wC
 by_cases h2:g<1
 ·rw [if_pos h2];exact .inl rfl
 ·rw [if_neg h2,if_pos zo];exact .inr rfl
theorem FD (n d:Int) (hl1:(Lib.decDigits n.natAbs).length≤600) (hl2:(Lib.decDigits d.natAbs).length≤600) (hd:0<d) (hg:n.natAbs.gcd d.natAbs≠1) (w:World) :
  Calls Tryz.prog 134 #[.agg #[.string ⟨(Lib.itoa n).toArray⟩,.string ⟨(Lib.itoa d).toArray⟩]] w (qL w):=by
 have HC:=zh (jH (s:=⟨(Lib.itoa n).toArray⟩) (dX hl1))
 have HD:=zh (jH (s:=⟨(Lib.itoa d).toArray⟩) (dX hl2))
 have U5:=zh hl1
 have HL2:=zh hl2
 have S1:=zh (vN (fE.2 hl1))
 have S2:=zh (vN (fE.2 hl2))
 have hsg:uQ d=1:=by unfold uQ;rw [if_neg zo,if_neg zo]
 have hdf:decide (d<0)=false:=by simp;omega
 have EN:=zh hsg
 have hs:=Kn hg
 obtain ⟨g,Eg⟩:∃ y:Nat,Hid (n.natAbs.gcd d.natAbs=y):=⟨_,zh rfl⟩
 rw [Eg.out] at hs
 clear hl1 hl2 hd hg hsg hdf
 rcases hs with hs|hs
 all_goals
  have HS:=zh hs
  clear hs
  go_enter Tryz.func134,Tryz.ntmps134
  go_wp2_with fail
  refine (HC.out _).mono ?_
  rintro e v1 ⟨rfl,hc1⟩
  have BR:=aB.later (aB.mg _ _ _ _) hc1;have bJ:=BR.cell;have bI:=BR.free
  have B0:=aB.later (aB.alloc (aB.new _ _ _) _) hc1;have cB0:=B0.cell;have j4:=B0.free
  go_wp2_with fail
  refine (HD.out _).mono ?_
  rintro e v2 ⟨rfl,hc2⟩
  replace BR:=aB.later (BR) hc2;replace bJ:=BR.cell;replace bI:=BR.free
  replace B0:=aB.later (B0) hc2;replace cB0:=B0.cell;replace j4:=B0.free
  go_wp2_with fail
  refine aC [(.pure,0),(.read,1),(.pure,3),(.read,4),(.ext,2),(.ext,5),(.alloc #[.slice none 0 0,.bool false] 123,6),(.alloc #[.slice none 0 0,.bool false] 123,7),(.fin,8),(.fin,9)] zk zk zR zP ?_
  repeat (first|(refine ah rfl rfl fun J h=>?_;go_simp;refine h _ ?_;clear h J)|(refine au rfl rfl rfl rfl fun J h=>?_;go_simp;refine h _ ?_;clear h J;try go_simp))
  refine aD rfl rfl (fun w3 hb3 J hJ=>?_);go_simp
  replace BR:=aB.later (aB.drew BR) hb3;replace bJ:=BR.cell;replace bI:=BR.free
  replace B0:=aB.later (aB.drew B0) hb3;replace cB0:=B0.cell;replace j4:=B0.free
  refine (fM n U5.out _).mono ?_
  rintro e v3 ⟨v,rfl,hc3,hv⟩
  obtain ⟨KO,Zx,LZ,rfl,HN⟩:=hv;replace HN:=zh HN
  replace BR:=aB.later (BR) hc3;replace bJ:=BR.cell;replace bI:=BR.free
  replace B0:=aB.later (B0) hc3;replace cB0:=B0.cell;replace j4:=B0.free
  refine hJ _ _ hc3 ?_
  clear hJ J
  refine aD rfl rfl (fun w4 hb4 J hJ=>?_);go_simp
  replace BR:=aB.later (BR) hb4;replace bJ:=BR.cell;replace bI:=BR.free
  replace B0:=aB.later (B0) hb4;replace cB0:=B0.cell;replace j4:=B0.free
  refine (fM d HL2.out _).mono ?_
  rintro e v4 ⟨v,rfl,hc4,hv⟩
  obtain ⟨Ph,lHM,Qe,rfl,HM⟩:=hv;replace HM:=zh HM
  replace BR:=aB.later (BR) hc4;replace bJ:=BR.cell;replace bI:=BR.free
  replace B0:=aB.later (B0) hc4;replace cB0:=B0.cell;replace j4:=B0.free
  refine hJ _ _ hc4 ?_
  clear hJ J
  refine aQ rfl (fun b1 w5 QF LD SI ae5 dw=>?_);go_simp;replace dw:aB _ _ _ _:=dw;have ad8:w.heap.size≤b1:=(by first|omega|exact Nat.le_trans (Below.size (B:=w.heap.size) aA) LD)
  replace BR:=aB.later (BR) QF;replace bJ:=BR.cell;replace bI:=BR.free
  refine aQ rfl (fun b2 w6 Px Tq XW Tw iE=>?_);go_simp;replace iE:aB _ _ _ _:=iE;have aw4:w.heap.size≤b2:=(by first|omega|exact Nat.le_trans (Below.size (B:=w.heap.size) aA) Tq)
  replace BR:=aB.later (BR) Px;replace bJ:=BR.cell;replace bI:=BR.free;replace dw:=aB.later (dw) Px;replace oH:=dw.cell;replace oF:=dw.free
  refine aJ [_,_] rfl (fun w7 dY=>?_)
  replace BR:=aB.later (BR) dY;replace bJ:=BR.cell;replace bI:=BR.free;replace dw:=aB.later (dw) dY;replace oH:=dw.cell;replace oF:=dw.free;replace iE:=aB.later (iE) dY;replace BS:=iE.cell;replace BJ:=iE.free
  have n1:b1≠b2:=fun e=>Tw (by simp [e])
  have n2:b2≠b1:=fun e=>n1 e.symm
  have n3:=BR.ne dw zd
  have n4:=BR.ne iE zd
  go_wp2_with fail
  refine ((wH _ d _ (aZ.aW aH)).mono (by rw [EN.out];exact fun _ _ h=>h)).mono ?_
  rintro e v5 ⟨rfl,kZ⟩
  replace HN:=zh (aM.carry HN.out aH kZ)
  replace HM:=zh (aM.carry HM.out aH kZ)
  replace dw:aB _ (b1) _ _:=aB.later aL kZ;(try simp only [List.setIfInBounds_toArray,List.set_cons_zero,List.set_cons_succ] at dw);replace oH:=dw.cell;replace oF:=dw.free
  replace iE:aB _ (b2) _ _:=aB.later aL kZ;(try simp only [List.setIfInBounds_toArray,List.set_cons_zero,List.set_cons_succ] at iE);replace BS:=iE.cell;replace BJ:=iE.free
  replace BR:aB _ (w.heap.size+1) _ _:=aB.later aL kZ;(try simp only [List.setIfInBounds_toArray,List.set_cons_zero,List.set_cons_succ] at BR);replace bJ:=BR.cell;replace bI:=BR.free
  go_wp2_with fail
  refine ((nC _ _ n.natAbs d.natAbs _ aH aH (Nat.le_trans S1.out zo) (Nat.le_trans S2.out zo)).mono (by rw [Eg.out];exact fun _ _ h=>h)).mono ?_
  rintro e v6 ⟨v,rfl,hc6,hv⟩
  obtain ⟨aC7,lHG,aI2,rfl⟩:=hv.slice;have HG:=zh hv;clear hv
  replace HN:=zh (aM.later HN.out hc6)
  replace HM:=zh (aM.later HM.out hc6)
  replace dw:=aB.later (dw) hc6;replace oH:=dw.cell;replace oF:=dw.free
  replace iE:=aB.later (iE) hc6;replace BS:=iE.cell;replace BJ:=iE.free
  replace BR:=aB.later (BR) hc6;replace bJ:=BR.cell;replace bI:=BR.free
  go_wp2_with fail
  refine ((jC _ _ g 1 _ aH (aM.lit zo zo)).mono (by rw [HS.out];exact fun _ _ h=>h)).mono ?_
  rintro e v7 ⟨rfl,Cy⟩
  replace BR:aB _ (w.heap.size+1) _ _:=aB.later aL Cy;(try simp only [List.setIfInBounds_toArray,List.set_cons_zero,List.set_cons_succ] at BR);replace bJ:=BR.cell;replace bI:=BR.free
  go_wp2_with fail
  refine aP rfl rfl aL Tryz.underlying125 rfl zk ?_
  exact ⟨rfl,aA⟩
theorem O5 (a:Fr) (h:rd a=none) (w:World):Calls Tryz.prog 134 #[a.v] w (qL w):=by
 obtain ⟨s,t⟩:=a
 show Calls _ _ #[.agg #[.string s,.string t]] _ _
 unfold rd at h
 simp only at h
 cases e1:Dec.whole s.data.toList with
 | none=>exact Kw s t e1 w
 | some n =>
  cases e2:Dec.whole t.data.toList with
  | none=>exact Ky s t n e1 e2 w
  | some d =>
   rw [e1,e2] at h
   simp only at h
   obtain ⟨h1,h2⟩:=nX e1
   obtain ⟨h3,h4⟩:=nX e2
   have hs:s=⟨(Lib.itoa n).toArray⟩:=BX h1
   have ht:t=⟨(Lib.itoa d).toArray⟩:=BX h3
   rw [hs,ht]
   by_cases hd:0<d
   ·refine FD n d h2 h4 hd (fun e=>?_) w
    rw [dif_pos ⟨hd,e⟩] at h
    cases h
   ·exact CV n d h2 h4 zo w
theorem dZ {s t:ByteArray} {q:Rat} (h:rd ⟨s,t⟩=some q) (w:World):Calls Tryz.prog 134 #[.agg #[.string s,.string t]] w (JL w q):=by
 obtain ⟨e,hq⟩:=jJ h
 have:=O4 q hq w
 rw [← e] at this
 exact this
theorem fJ {s t:ByteArray} (h:rd ⟨s,t⟩=none) (w:World):Calls Tryz.prog 134 #[.agg #[.string s,.string t]] w (qL w):=O5 ⟨s,t⟩ h w
theorem qH (a:Fr) (w:World) :
  Calls Tryz.prog 81 #[a.v] w (fun e w'=>e= .returned (.int .i64 (zn a))∧Below w.heap.size w w'):=by
 obtain ⟨s,t⟩:=a
 show Calls _ _ #[.agg #[.string s,.string t]] _ _
 unfold zn
 cases h:rd ⟨s,t⟩ with
 | none =>
  have HR:=zh (fJ h)
  clear h
  go_enter Tryz.func81,Tryz.ntmps81
  go_wp2_with fail
  refine (HR.out _).mono ?_
  rintro e v1 ⟨rfl,hc1⟩
  go_wp2_with fail
  go_ret
  exact ⟨rfl,aA⟩
 | some q =>
  have HR:=zh (dZ h)
  clear h
  go_enter Tryz.func81,Tryz.ntmps81
  go_wp2_with fail
  refine (HR.out _).mono ?_
  rintro e v1 ⟨v,rfl,hc1,hv⟩
  obtain ⟨yh,Pv,yJ,yg,Pq,yI,rfl,Hq,qM⟩:=hv;replace Hq:=zh Hq;replace qM:=zh qM
  go_wp2_with fail
  go_ret
  exact ⟨rfl,aA⟩
def pair (x:Int × Int):Value:=.tuple #[.int .i64 x.1,.int .i64 x.2]
theorem jX (a:Fr) (w:World) :
  Calls Tryz.prog 83 #[a.v] w (fun e w'=>e= .returned (pair (fI a))∧Below w.heap.size w w'):=by
 obtain ⟨s,t⟩:=a
 show Calls _ _ #[.agg #[.string s,.string t]] _ _
 unfold fI
 cases h:rd ⟨s,t⟩ with
 | none =>
  have HR:=zh (fJ h)
  clear h
  go_enter Tryz.func83,Tryz.ntmps83
  go_wp2_with fail
  refine (HR.out _).mono ?_
  rintro e v1 ⟨rfl,hc1⟩
  go_wp2_with fail
  go_ret2
  exact ⟨rfl,aA⟩
 | some q =>
  have HR:=zh (dZ h)
  have e:=OX q
  simp only
  rw [← e]
  clear h e
  go_enter Tryz.func83,Tryz.ntmps83
  go_wp2_with fail
  refine (HR.out _).mono ?_
  rintro e v1 ⟨v,rfl,hc1,hv⟩
  obtain ⟨yh,Pv,yJ,yg,Pq,yI,rfl,Hq,qM⟩:=hv;replace Hq:=zh Hq;replace qM:=zh qM
  go_wp2_with fail
  refine (wH _ q.num _ (aZ.aW aH)).mono ?_
  rintro e v2 ⟨rfl,hc2⟩
  go_wp2_with fail
  go_ret2
  exact ⟨rfl,aA⟩
theorem JF (s t s' t':ByteArray) (w:World) :
  Calls Tryz.prog 75 #[.agg #[.string s,.string t],.agg #[.string s',.string t'],.func (.func 76) #[] #[]] w (fun e w'=>e= .returned (pair (Qb ⟨s,t⟩ ⟨s',t'⟩))∧Below w.heap.size w w'):=by
 unfold Qb
 cases h:rd ⟨s,t⟩ with
 | none =>
  have HR:=zh (fJ h)
  cases k:rd ⟨s',t'⟩ with
  | none =>
   have HS:=zh (fJ k)
   clear h k
   go_enter Tryz.func75,Tryz.ntmps75
   go_wp2_with fail
   refine (HR.out _).mono ?_
   rintro e v1 ⟨rfl,hc1⟩
   have B1:=aB.later (aB.mg _ _ _ _) hc1;have cB1:=B1.cell;have mE:=B1.free;have lB1:=B1.lt
   go_wp2_with fail
   refine (HS.out _).mono ?_
   rintro e v2 ⟨rfl,hc2⟩
   go_wp2_with fail
   go_ret2
   exact ⟨rfl,aA⟩
  | some q =>
   have HS:=zh (dZ k)
   clear h k
   go_enter Tryz.func75,Tryz.ntmps75
   go_wp2_with fail
   refine (HR.out _).mono ?_
   rintro e v1 ⟨rfl,hc1⟩
   have B1:=aB.later (aB.mg _ _ _ _) hc1;have cB1:=B1.cell;have mE:=B1.free;have lB1:=B1.lt
   go_wp2_with fail
   refine (HS.out _).mono ?_
   rintro e v2 ⟨v,rfl,hc2,hv⟩
   obtain ⟨yh,Pv,yJ,yg,Pq,yI,rfl,Hq,qM⟩:=hv;replace Hq:=zh Hq;replace qM:=zh qM
   go_wp2_with fail
   go_ret2
   exact ⟨rfl,aA⟩
 | some p =>
  have HR:=zh (dZ h)
  cases k:rd ⟨s',t'⟩ with
  | none =>
   have HS:=zh (fJ k)
   clear h k
   go_enter Tryz.func75,Tryz.ntmps75
   go_wp2_with fail
   refine (HR.out _).mono ?_
   rintro e v1 ⟨v,rfl,hc1,hv⟩
   obtain ⟨CX,UZ,Dm,CW,UY,Dl,rfl,Hp,nW⟩:=hv;replace Hp:=zh Hp;replace nW:=zh nW
   have B1:=aB.later (aB.mg _ _ _ _) hc1;have cB1:=B1.cell;have mE:=B1.free;have lB1:=B1.lt
   go_wp2_with fail
   refine (HS.out _).mono ?_
   rintro e v2 ⟨rfl,hc2⟩
   go_wp2_with fail
   go_ret2
   exact ⟨rfl,aA⟩
  | some q =>
   have HS:=zh (dZ k)
   have KP:=zh ((gL (jJ h).2).mono (show 67≤1000000 by omega))
   have KQ:=zh ((gL (jJ k).2).mono (show 67≤1000000 by omega))
   clear h k
   go_enter Tryz.func75,Tryz.ntmps75
   go_wp2_with fail
   refine (HR.out _).mono ?_
   rintro e v1 ⟨v,rfl,hc1,hv⟩
   obtain ⟨CX,UZ,Dm,CW,UY,Dl,rfl,Hp,nW⟩:=hv;replace Hp:=zh Hp;replace nW:=zh nW
   have B1:=aB.later (aB.mg _ _ _ _) hc1;have cB1:=B1.cell;have mE:=B1.free;have lB1:=B1.lt
   go_wp2_with fail
   refine (HS.out _).mono ?_
   rintro e v2 ⟨v,rfl,hc2,hv⟩
   obtain ⟨yh,Pv,yJ,yg,Pq,yI,rfl,Hq,qM⟩:=hv;replace Hq:=zh Hq;replace qM:=zh qM
   replace X1:aB _ (v1.heap.size) _ _:=aB.later aL hc2;(try simp only [List.setIfInBounds_toArray,List.set_cons_zero,List.set_cons_succ] at X1);replace dW:=X1.cell;replace fG:=X1.free;replace dU:=X1.lt
   go_wp2_with fail
   refine (sI _ _ p q _ (eF.of aH aH) (eF.of aH aH) KP.out KQ.out).mono ?_
   rintro e v3 ⟨rfl,hc3⟩
   go_wp2_with fail
   go_ret2
   exact ⟨rfl,aA⟩
theorem ah5 (a b:Fr) (w:World) :
  Calls Tryz.prog 32 #[a.v,b.v] w (fun e w'=>e= .returned (pair (Qb a b))∧Below w.heap.size w w'):=by
 obtain ⟨s,t⟩:=a
 obtain ⟨s',t'⟩:=b
 show Calls _ _ #[.agg #[.string s,.string t],.agg #[.string s',.string t']] _ _
 have H:=zh (JF s t s' t')
 unfold pair at *
 generalize Qb ⟨s,t⟩ ⟨s',t'⟩=c at *
 obtain ⟨x,y⟩:=c
 go_enter Tryz.func32,Tryz.ntmps32
 go_wp2_with fail
 refine (H.out _).mono ?_
 rintro e v1 ⟨rfl,hc1⟩
 go_wp2_with fail
 go_ret2
 exact ⟨rfl,aA⟩
theorem RZ (x y:Value) (p q:Rat) (w:World) (hx:eF w x p) (hy:eF w y q) (kp:eP 1000000 p) (kq:eP 1000000 q) :
  Calls Tryz.prog 142 #[x,y] w (fun e w'=>∃ v,e= .returned v∧Below w.heap.size w w'∧eF w' v (p*q)):=by
 obtain ⟨Iq,lH,Jy,YZ,mH,cbH,rfl,H,Hd⟩:=hx;replace H:=zh H;replace Hd:=zh Hd
 obtain ⟨Qz,lG,QL,pbG,mG,cbG,rfl,G,Gd⟩:=hy;replace G:=zh G;replace Gd:=zh Gd
 have HP:=zh (La p q)
 have hp:=p.den_pos
 have hq:=q.den_pos
 have hg:0<p.num.natAbs.gcd q.den:=Nat.gcd_pos_of_pos_right _ hq
 have hh:0<q.num.natAbs.gcd p.den:=Nat.gcd_pos_of_pos_right _ hp
 obtain ⟨kp1,kp2⟩:=kp
 obtain ⟨kq1,kq2⟩:=kq
 obtain ⟨g,Eg⟩:∃ y:Nat,Hid (p.num.natAbs.gcd q.den=y):=⟨_,zh rfl⟩
 rw [Eg.out] at hg HP
 obtain ⟨h,Eh⟩:∃ y:Nat,Hid (q.num.natAbs.gcd p.den=y):=⟨_,zh rfl⟩
 rw [Eh.out] at hh HP
 have k1:= @gF p.num.natAbs g
 have k2:= @gF p.den h
 have k3:= @gF q.num.natAbs h
 have k4:= @gF q.den g
 obtain ⟨a,Ea⟩:∃ y:Nat,Hid (p.num.natAbs / g=y):=⟨_,zh rfl⟩
 rw [Ea.out] at HP k1
 obtain ⟨b,Eb⟩:∃ y:Nat,Hid (p.den / h=y):=⟨_,zh rfl⟩
 rw [Eb.out] at HP k2
 obtain ⟨c,Ec⟩:∃ y:Nat,Hid (q.num.natAbs / h=y):=⟨_,zh rfl⟩
 rw [Ec.out] at HP k3
 obtain ⟨d,Ed⟩:∃ y:Nat,Hid (q.den / g=y):=⟨_,zh rfl⟩
 rw [Ed.out] at HP k4
 obtain ⟨s,Es⟩:∃ y:Nat,Hid (a*c=y):=⟨_,zh rfl⟩
 rw [Es.out] at HP
 obtain ⟨t,Et⟩:∃ y:Nat,Hid (b*d=y):=⟨_,zh rfl⟩
 rw [Et.out] at HP
 have HGp:=zh hg
 have HHp:=zh hh
 have Kpn:Hid (sz 1000000000 p.num.natAbs≤549755813888):=by unfold Hid;omega
 have Kqn:Hid (sz 1000000000 q.num.natAbs≤549755813888):=by unfold Hid;omega
 have Kpd:Hid (sz 1000000000 p.den≤549755813888):=by unfold Hid;omega
 have Kqd:Hid (sz 1000000000 q.den≤549755813888):=by unfold Hid;omega
 have Ka:Hid (sz 1000000000 a≤1099511627776):=by unfold Hid;omega
 have Kb:Hid (sz 1000000000 b≤1099511627776):=by unfold Hid;omega
 have Kc:Hid (sz 1000000000 c≤1099511627776):=by unfold Hid;omega
 have Kd:Hid (sz 1000000000 d≤1099511627776):=by unfold Hid;omega
 clear k1 k2 k3 k4 kp1 kp2 kq1 kq2 hg hh hp hq
 go_enter Tryz.func142,Tryz.ntmps142
 go_wp2_with fail
 refine ((nC _ _ p.num.natAbs q.den _ aH aH Kpn.out Kqd.out).mono (by rw [Eg.out];exact fun _ _ h=>h)).mono ?_
 rintro e v1 ⟨v,rfl,hc1,hv⟩
 obtain ⟨aQ5,lMg,aX0,rfl⟩:=hv.slice;have Mg:=zh hv;clear hv
 replace H:=zh (aM.carry H.out aH hc1)
 replace Hd:=zh (aM.carry Hd.out aH hc1)
 replace G:=zh (aM.carry G.out aH hc1)
 replace Gd:=zh (aM.carry Gd.out aH hc1)
 have BR:=aB.later (aB.at2 _ _ _ _ _) hc1;have bJ:=BR.cell;have bI:=BR.free
 have B1:=aB.later (aB.alloc (aB.mg _ _ _ _) _) hc1;have cB1:=B1.cell;have mE:=B1.free
 have B0:=aB.later (aB.alloc (aB.alloc (aB.new _ _ _) _) _) hc1;have cB0:=B0.cell;have j4:=B0.free
 go_wp2_with fail
 refine ((nC _ _ q.num.natAbs p.den _ aH aH Kqn.out Kpd.out).mono (by rw [Eh.out];exact fun _ _ h=>h)).mono ?_
 rintro e v2 ⟨v,rfl,hc2,hv⟩
 obtain ⟨aQ4,lMh,aW9,rfl⟩:=hv.slice;have Mh:=zh hv;clear hv
 replace H:=zh (aM.later H.out hc2)
 replace Hd:=zh (aM.later Hd.out hc2)
 replace G:=zh (aM.later G.out hc2)
 replace Gd:=zh (aM.later Gd.out hc2)
 replace Mg:=zh (aM.later Mg.out hc2)
 replace BR:=aB.later (BR) hc2;replace bJ:=BR.cell;replace bI:=BR.free
 replace B1:=aB.later (B1) hc2;replace cB1:=B1.cell;replace mE:=B1.free
 replace B0:=aB.later (B0) hc2;replace cB0:=B0.cell;replace j4:=B0.free
 go_wp2_with fail
 refine ((dD _ _ p.num.natAbs g _ aH aH HGp.out Kpn.out).mono (by rw [Ea.out];exact fun _ _ h=>h)).mono ?_
 rintro e v3 ⟨v,vr,rfl,hc3,hv,jf⟩
 obtain ⟨aQ9,lMa,aX4,rfl⟩:=hv.slice;have Ma:=zh hv;clear hv;obtain ⟨aJ7,aT1,aL5,rfl⟩:=jf.slice;have Mar:=zh jf;clear jf
 replace Hd:=zh (aM.later Hd.out hc3)
 replace G:=zh (aM.later G.out hc3)
 replace Gd:=zh (aM.later Gd.out hc3)
 replace Mg:=zh (aM.later Mg.out hc3)
 replace Mh:=zh (aM.later Mh.out hc3)
 replace BR:=aB.later (BR) hc3;replace bJ:=BR.cell;replace bI:=BR.free
 replace B1:=aB.later (B1) hc3;replace cB1:=B1.cell;replace mE:=B1.free
 replace B0:=aB.later (B0) hc3;replace cB0:=B0.cell;replace j4:=B0.free
 go_wp2_with fail
 clear Mar H
 refine ((dD _ _ p.den h _ aH aH HHp.out Kpd.out).mono (by rw [Eb.out];exact fun _ _ h=>h)).mono ?_
 rintro e v4 ⟨v,vr,rfl,hc4,hv,jf⟩
 obtain ⟨aQ8,lMb,aX3,rfl⟩:=hv.slice;have Mb:=zh hv;clear hv;obtain ⟨aJ6,aT0,aL4,rfl⟩:=jf.slice;have Mbr:=zh jf;clear jf
 replace G:=zh (aM.later G.out hc4)
 replace Gd:=zh (aM.later Gd.out hc4)
 replace Mg:=zh (aM.later Mg.out hc4)
 replace Mh:=zh (aM.later Mh.out hc4)
 replace Ma:=zh (aM.later Ma.out hc4)
 replace BR:=aB.later (BR) hc4;replace bJ:=BR.cell;replace bI:=BR.free
 replace B1:=aB.later (B1) hc4;replace cB1:=B1.cell;replace mE:=B1.free
 replace B0:=aB.later (B0) hc4;replace cB0:=B0.cell;replace j4:=B0.free
 go_wp2_with fail
 clear Mbr Hd
 refine ((dD _ _ q.num.natAbs h _ aH aH HHp.out Kqn.out).mono (by rw [Ec.out];exact fun _ _ h=>h)).mono ?_
 rintro e v5 ⟨v,vr,rfl,kZ,hv,jf⟩
 obtain ⟨aQ7,lMc,aX2,rfl⟩:=hv.slice;have Mc:=zh hv;clear hv;obtain ⟨aJ5,aS9,aL3,rfl⟩:=jf.slice;have Mcr:=zh jf;clear jf
 replace Gd:=zh (aM.later Gd.out kZ)
 replace Mg:=zh (aM.later Mg.out kZ)
 replace Ma:=zh (aM.later Ma.out kZ)
 replace Mb:=zh (aM.later Mb.out kZ)
 replace BR:=aB.later (BR) kZ;replace bJ:=BR.cell;replace bI:=BR.free
 replace B1:=aB.later (B1) kZ;replace cB1:=B1.cell;replace mE:=B1.free
 replace B0:=aB.later (B0) kZ;replace cB0:=B0.cell;replace j4:=B0.free
 go_wp2_with fail
 clear Mcr G
 refine ((dD _ _ q.den g _ aH aH HGp.out Kqd.out).mono (by rw [Ed.out];exact fun _ _ h=>h)).mono ?_
 rintro e v6 ⟨v,vr,rfl,hc6,hv,jf⟩
 obtain ⟨aQ6,lMd,aX1,rfl⟩:=hv.slice;have Md:=zh hv;clear hv;obtain ⟨aJ4,aS8,aL2,rfl⟩:=jf.slice;have Mdr:=zh jf;clear jf
 replace Ma:=zh (aM.later Ma.out hc6)
 replace Mb:=zh (aM.later Mb.out hc6)
 replace Mc:=zh (aM.later Mc.out hc6)
 replace BR:=aB.later (BR) hc6;replace bJ:=BR.cell;replace bI:=BR.free
 replace B1:=aB.later (B1) hc6;replace cB1:=B1.cell;replace mE:=B1.free
 replace B0:=aB.later (B0) hc6;replace cB0:=B0.cell;replace j4:=B0.free
 go_wp2_with fail
 clear Mdr Gd
 refine aC [(.pure,0),(.pure,1),(.pure,3),(.pure,4),(.read,5),(.pure,6),(.pure,7),(.read,8),(.pure,9),(.pure,11),(.pure,12),(.ext,2),(.ext,10),(.ext,13),(.pure,14),(.fin,15)] zk zk zR zP ?_
 repeat (first|(refine ah rfl rfl fun J h=>?_;go_simp;refine h _ ?_;clear h J)|(refine au rfl rfl rfl rfl fun J h=>?_;go_simp;refine h _ ?_;clear h J;try go_simp))
 refine aD rfl rfl (fun w7 dY J hJ=>?_);go_simp
 replace Ma:=zh (aM.carry Ma.out aH dY)
 replace Mb:=zh (aM.carry Mb.out aH dY)
 replace Mc:=zh (aM.carry Mc.out aH dY)
 replace Md:=zh (aM.carry Md.out aH dY)
 replace BR:=aB.later (aB.drew BR) dY;replace bJ:=BR.cell;replace bI:=BR.free
 refine ((jm _ _ a c _ aH aH Ka.out Kc.out).mono (by rw [Es.out];exact fun _ _ h=>h)).mono ?_
 rintro e v7 ⟨v,rfl,Cy,hv⟩
 obtain ⟨aQ3,lMs,aW8,rfl⟩:=hv.slice;have Ms:=zh hv;clear hv
 replace Ma:=zh (aM.later Ma.out Cy)
 replace Mb:=zh (aM.later Mb.out Cy)
 replace Mc:=zh (aM.later Mc.out Cy)
 replace Md:=zh (aM.later Md.out Cy)
 replace BR:=aB.later (BR) Cy;replace bJ:=BR.cell;replace bI:=BR.free
 refine hJ _ _ Cy ?_
 clear hJ J
 refine aD rfl rfl (fun w8 kE J hJ=>?_);go_simp
 replace Mb:=zh (aM.later Mb.out kE)
 replace Md:=zh (aM.later Md.out kE)
 replace Ms:=zh (aM.later Ms.out kE)
 replace BR:=aB.later (BR) kE;replace bJ:=BR.cell;replace bI:=BR.free
 refine (eH _ s _ _ aH).mono ?_
 rintro e v8 ⟨v,rfl,hc8,hv⟩
 obtain ⟨aQ1,lMv,aW6,rfl,Mv⟩:=hv;replace Mv:=zh Mv
 replace Mb:=zh (aM.later Mb.out hc8)
 replace Md:=zh (aM.later Md.out hc8)
 replace Ms:=zh (aM.later Ms.out hc8)
 replace BR:=aB.later (BR) hc8;replace bJ:=BR.cell;replace bI:=BR.free
 refine hJ _ _ hc8 ?_
 clear hJ J
 refine aD rfl rfl (fun w9 gQ J hJ=>?_);go_simp
 replace Mb:=zh (aM.later Mb.out gQ)
 replace Md:=zh (aM.later Md.out gQ)
 replace Mv:=zh (aM.later Mv.out gQ)
 replace BR:=aB.later (BR) gQ;replace bJ:=BR.cell;replace bI:=BR.free
 refine ((jm _ _ b d _ aH aH Kb.out Kd.out).mono (by rw [Et.out];exact fun _ _ h=>h)).mono ?_
 rintro e v9 ⟨v,rfl,Ll,hv⟩
 obtain ⟨aQ2,lMt,aW7,rfl⟩:=hv.slice;have Mt:=zh hv;clear hv
 replace Mb:=zh (aM.later Mb.out Ll)
 replace Md:=zh (aM.later Md.out Ll)
 replace Mv:=zh (aM.later Mv.out Ll)
 replace BR:=aB.later (BR) Ll;replace bJ:=BR.cell;replace bI:=BR.free
 refine hJ _ _ Ll ?_
 clear hJ J
 repeat (first|(refine ah rfl rfl fun J h=>?_;go_simp;refine h _ ?_;clear h J)|(refine au rfl rfl rfl rfl fun J h=>?_;go_simp;refine h _ ?_;clear h J;try go_simp))
 refine aJ [_] rfl (fun XE IZ=>?_)
 replace BR:=aB.later (BR) IZ;replace bJ:=BR.cell;replace bI:=BR.free
 go_wp2_with fail
 refine bP rfl rfl aL Tryz.underlying125 rfl zk ?_
 exact ⟨_,rfl,aA,eF.mk (je s (!(decide (p.num<0) == decide (q.num<0)))).natAbs t aH aH (by rw [HP.out.1]) HP.out.2.symm (by rw [HP.out.1])⟩
theorem Uk (x y:Value) (p q:Rat) (w:World) (hx:eF w x p) (hy:eF w y q) (kp:eP 1000000 p) (kq:eP 1000000 q) :
  Calls Tryz.prog 147 #[x,y] w (fun e w'=>∃ v,e= .returned v∧Below w.heap.size w w'∧eF w' v (p+q)):=by
 obtain ⟨Iq,lH,Jy,YZ,mH,cbH,rfl,H,Hd⟩:=hx;replace H:=zh H;replace Hd:=zh Hd
 obtain ⟨Qz,lG,QL,pbG,mG,cbG,rfl,G,Gd⟩:=hy;replace G:=zh G;replace Gd:=zh Gd
 have HP:=zh (Mj p q)
 have hp:=p.den_pos
 have hq:=q.den_pos
 have hg:0<p.den.gcd q.den:=Nat.gcd_pos_of_pos_right _ hq
 have k1:= @gF q.den (p.den.gcd q.den)
 have k2:= @gF p.den (p.den.gcd q.den)
 have k3:=Fv (a:=p.den) hq
 obtain ⟨kp1,kp2⟩:=kp
 obtain ⟨kq1,kq2⟩:=kq
 obtain ⟨g,Eg⟩:∃ y:Nat,Hid (p.den.gcd q.den=y):=⟨_,zh rfl⟩
 rw [Eg.out] at hg HP k1 k2 k3
 obtain ⟨l,El⟩:∃ y:Nat,Hid (q.den / g=y):=⟨_,zh rfl⟩
 rw [El.out] at HP k1
 obtain ⟨r,Er⟩:∃ y:Nat,Hid (p.den / g=y):=⟨_,zh rfl⟩
 rw [Er.out] at HP k2
 have k4:=kg p.num l
 have k5:=kg q.num r
 obtain ⟨s,Es⟩:∃ y:Int,Hid (p.num*(l:Int)=y):=⟨_,zh rfl⟩
 rw [Es.out] at HP k4
 obtain ⟨t,Et⟩:∃ y:Int,Hid (q.num*(r:Int)=y):=⟨_,zh rfl⟩
 rw [Et.out] at HP k5
 have k6:=qx s t
 obtain ⟨u,Eu⟩:∃ y:Int,Hid (s+t=y):=⟨_,zh rfl⟩
 rw [Eu.out] at HP k6
 have hh:0<u.natAbs.gcd g:=Nat.gcd_pos_of_pos_right _ hg
 obtain ⟨h,Eh⟩:∃ y:Nat,Hid (u.natAbs.gcd g=y):=⟨_,zh rfl⟩
 rw [Eh.out] at HP hh
 obtain ⟨m,Em⟩:∃ y:Nat,Hid (u.natAbs / h=y):=⟨_,zh rfl⟩
 rw [Em.out] at HP
 obtain ⟨c,Ec⟩:∃ y:Nat,Hid (q.den / h=y):=⟨_,zh rfl⟩
 rw [Ec.out] at HP
 have k7:sz 1000000000 c≤sz 1000000000 q.den:=by rw [← Ec.out];exact gF
 obtain ⟨d,Ed⟩:∃ y:Nat,Hid (r*c=y):=⟨_,zh rfl⟩
 rw [Ed.out] at HP
 have HG:=zh hg
 have HH:=zh hh
 have Kpn:Hid (sz 1000000000 p.num.natAbs≤549755813888):=by unfold Hid;omega
 have Kqn:Hid (sz 1000000000 q.num.natAbs≤549755813888):=by unfold Hid;omega
 have Kpd:Hid (sz 1000000000 p.den≤549755813888):=by unfold Hid;omega
 have Kqd:Hid (sz 1000000000 q.den≤549755813888):=by unfold Hid;omega
 have Kg:Hid (sz 1000000000 g≤549755813888):=by unfold Hid;omega
 have Kl:Hid (sz 1000000000 l≤549755813888):=by unfold Hid;omega
 have Kr:Hid (sz 1000000000 r≤549755813888):=by unfold Hid;omega
 have Ks:Hid (sz 1000000000 s.natAbs≤549755813888):=by unfold Hid;omega
 have Kt:Hid (sz 1000000000 t.natAbs≤549755813888):=by unfold Hid;omega
 have Ku:Hid (sz 1000000000 u.natAbs≤549755813888):=by unfold Hid;omega
 have Kc:Hid (sz 1000000000 c≤549755813888):=by unfold Hid;omega
 clear k1 k2 k3 k4 k5 k6 k7 kp1 kp2 kq1 kq2 hg hh hp hq
 go_enter Tryz.func147,Tryz.ntmps147
 go_wp2_with fail
 refine ((nC _ _ p.den q.den _ aH aH Kpd.out Kqd.out).mono (by rw [Eg.out];exact fun _ _ h=>h)).mono ?_
 rintro e v1 ⟨v,rfl,hc1,hv⟩
 obtain ⟨RB,lHg,Ug,rfl⟩:=hv.slice;have Hg:=zh hv;clear hv
 have BR:=aB.later (aB.at2 _ _ _ _ _) hc1;have bJ:=BR.cell;have bI:=BR.free
 have B1:=aB.later (aB.alloc (aB.mg _ _ _ _) _) hc1;have cB1:=B1.cell;have mE:=B1.free
 have B0:=aB.later (aB.alloc (aB.alloc (aB.new _ _ _) _) _) hc1;have cB0:=B0.cell;have j4:=B0.free
 go_wp2_with fail
 refine ((dD _ _ q.den g _ aH aH HG.out Kqd.out).mono (by rw [El.out];exact fun _ _ h=>h)).mono ?_
 rintro e v2 ⟨v,vr,rfl,hc2,hv,jf⟩
 obtain ⟨aR1,lHl,aX6,rfl⟩:=hv.slice;have Hl:=zh hv;clear hv;obtain ⟨aK0,aT4,aL8,rfl⟩:=jf.slice;have Hlr:=zh jf;clear jf
 replace BR:=aB.later (BR) hc2;replace bJ:=BR.cell;replace bI:=BR.free
 replace B1:=aB.later (B1) hc2;replace cB1:=B1.cell;replace mE:=B1.free
 replace B0:=aB.later (B0) hc2;replace cB0:=B0.cell;replace j4:=B0.free
 go_wp2_with fail
 refine ((dD _ _ p.den g _ aH aH HG.out Kpd.out).mono (by rw [Er.out];exact fun _ _ h=>h)).mono ?_
 rintro e v3 ⟨v,vr,rfl,hc3,hv,jf⟩
 obtain ⟨Ip,XK,Jw,rfl⟩:=hv.slice;have Hr:=zh hv;clear hv;obtain ⟨aJ8,aT2,aL6,rfl⟩:=jf.slice;have Hrr:=zh jf;clear jf
 replace BR:=aB.later (BR) hc3;replace bJ:=BR.cell;replace bI:=BR.free
 replace B1:=aB.later (B1) hc3;replace cB1:=B1.cell;replace mE:=B1.free
 replace B0:=aB.later (B0) hc3;replace cB0:=B0.cell;replace j4:=B0.free
 go_wp2_with fail
 refine aC [(.pure,0),(.read,1),(.pure,2),(.pure,4),(.read,5),(.pure,6),(.ext,3),(.ext,7),(.ext,8),(.alloc #[.slice none 0 0,.bool false] 123,9),(.fin,10)] zk zk zR zP ?_
 repeat (first|(refine ah rfl rfl fun J h=>?_;go_simp;refine h _ ?_;clear h J)|(refine au rfl rfl rfl rfl fun J h=>?_;go_simp;refine h _ ?_;clear h J;try go_simp))
 refine aD rfl rfl (fun w4 hb4 J hJ=>?_);go_simp
 replace BR:=aB.later (aB.drew BR) hb4;replace bJ:=BR.cell;replace bI:=BR.free
 replace B1:=aB.later (aB.drew B1) hb4;replace cB1:=B1.cell;replace mE:=B1.free
 replace B0:=aB.later (aB.drew B0) hb4;replace cB0:=B0.cell;replace j4:=B0.free
 refine ((lK _ _ p.num l _ (aZ.aW aH) aH Kpn.out Kl.out).mono (by rw [Es.out];exact fun _ _ h=>h)).mono ?_
 rintro e v4 ⟨v,rfl,hc4,hv⟩
 obtain ⟨Pg,lHs,Qd,rfl,Hs⟩:=hv;replace Hs:=zh Hs
 replace BR:=aB.later (BR) hc4;replace bJ:=BR.cell;replace bI:=BR.free
 replace B1:=aB.later (B1) hc4;replace cB1:=B1.cell;replace mE:=B1.free
 replace B0:=aB.later (B0) hc4;replace cB0:=B0.cell;replace j4:=B0.free
 refine hJ _ _ hc4 ?_
 clear hJ J
 refine aD rfl rfl (fun w5 hb5 J hJ=>?_);go_simp
 replace BR:=aB.later (BR) hb5;replace bJ:=BR.cell;replace bI:=BR.free
 replace B1:=aB.later (B1) hb5;replace cB1:=B1.cell;replace mE:=B1.free
 replace B0:=aB.later (B0) hb5;replace cB0:=B0.cell;replace j4:=B0.free
 refine ((lK _ _ q.num r _ (aZ.aW aH) aH Kqn.out Kr.out).mono (by rw [Et.out];exact fun _ _ h=>h)).mono ?_
 rintro e v5 ⟨v,rfl,kZ,hv⟩
 obtain ⟨Y6,lHt,af9,rfl,Ht⟩:=hv;replace Ht:=zh Ht
 replace BR:=aB.later (BR) kZ;replace bJ:=BR.cell;replace bI:=BR.free
 replace B1:=aB.later (B1) kZ;replace cB1:=B1.cell;replace mE:=B1.free
 replace B0:=aB.later (B0) kZ;replace cB0:=B0.cell;replace j4:=B0.free
 refine hJ _ _ kZ ?_
 clear hJ J
 refine aD rfl rfl (fun w6 hb6 J hJ=>?_);go_simp
 replace BR:=aB.later (BR) hb6;replace bJ:=BR.cell;replace bI:=BR.free
 replace B1:=aB.later (B1) hb6;replace cB1:=B1.cell;replace mE:=B1.free
 replace B0:=aB.later (B0) hb6;replace cB0:=B0.cell;replace j4:=B0.free
 refine ((vH _ _ s t _ (aZ.aW aH) (aZ.aW aH) Ks.out Kt.out).mono (by rw [Eu.out];exact fun _ _ h=>h)).mono ?_
 rintro e v6 ⟨v,rfl,hc6,hv⟩
 obtain ⟨aR0,lHu,aX5,rfl,Hu⟩:=hv;replace Hu:=zh Hu
 replace BR:=aB.later (BR) hc6;replace bJ:=BR.cell;replace bI:=BR.free
 replace B1:=aB.later (B1) hc6;replace cB1:=B1.cell;replace mE:=B1.free
 replace B0:=aB.later (B0) hc6;replace cB0:=B0.cell;replace j4:=B0.free
 refine hJ _ _ hc6 ?_
 clear hJ J
 refine aQ rfl (fun b1 w7 hw7 LD SI ae5 dw=>?_);go_simp;replace dw:aB _ _ _ _:=dw;have ad8:w.heap.size≤b1:=(by first|omega|exact Nat.le_trans (Below.size (B:=w.heap.size) aA) LD)
 replace BR:=aB.later (BR) hw7;replace bJ:=BR.cell;replace bI:=BR.free;replace B1:=aB.later (B1) hw7;replace cB1:=B1.cell;replace mE:=B1.free;replace B0:=aB.later (B0) hw7;replace cB0:=B0.cell;replace j4:=B0.free
 refine aJ [_] rfl (fun w8 kE=>?_)
 replace BR:=aB.later (BR) kE;replace bJ:=BR.cell;replace bI:=BR.free;replace B1:=aB.later (B1) kE;replace cB1:=B1.cell;replace mE:=B1.free;replace B0:=aB.later (B0) kE;replace cB0:=B0.cell;replace j4:=B0.free;replace dw:=aB.later (dw) kE;replace oH:=dw.cell;replace oF:=dw.free
 have n0:=B0.ne dw zd
 have n1:=B1.ne dw zd
 have n2:=BR.ne dw zd
 go_wp2_with fail
 refine ((nC _ _ u.natAbs g _ aH aH Ku.out Kg.out).mono (by rw [Eh.out];exact fun _ _ h=>h)).mono ?_
 rintro e v9 ⟨v,rfl,Ll,hv⟩
 obtain ⟨aR2,lHh,aX7,rfl⟩:=hv.slice;have Hh:=zh hv;clear hv
 replace Hu:=zh (aM.carry Hu.out aH Ll)
 replace Hg:=zh (aM.carry Hg.out aH Ll)
 replace Hr:=zh (aM.carry Hr.out aH Ll)
 replace G:=zh (aM.carry G.out aH Ll)
 replace Gd:=zh (aM.carry Gd.out aH Ll)
 replace dw:aB _ (b1) _ _:=aB.later aL Ll;(try simp only [List.setIfInBounds_toArray,List.set_cons_zero,List.set_cons_succ] at dw);replace oH:=dw.cell;replace oF:=dw.free
 replace BR:aB _ (w.heap.size+1+1) _ _:=aB.later aL Ll;(try simp only [List.setIfInBounds_toArray,List.set_cons_zero,List.set_cons_succ] at BR);replace bJ:=BR.cell;replace bI:=BR.free
 replace B1:aB _ (w.heap.size+1) _ _:=aB.later aL Ll;(try simp only [List.setIfInBounds_toArray,List.set_cons_zero,List.set_cons_succ] at B1);replace cB1:=B1.cell;replace mE:=B1.free
 replace B0:aB _ (w.heap.size) _ _:=aB.later aL Ll;(try simp only [List.setIfInBounds_toArray,List.set_cons_zero,List.set_cons_succ] at B0);replace cB0:=B0.cell;replace j4:=B0.free
 go_wp2_with fail
 refine ((dD _ _ u.natAbs h _ aH aH HH.out Ku.out).mono (by rw [Em.out];exact fun _ _ h=>h)).mono ?_
 rintro e v10 ⟨v,vr,rfl,Wt,hv,jf⟩
 obtain ⟨ao6,lHm,ax7,rfl⟩:=hv.slice;have Hm:=zh hv;clear hv;obtain ⟨aJ9,aT3,aL7,rfl⟩:=jf.slice;have Hmr:=zh jf;clear jf
 replace dw:=aB.later (dw) Wt;replace oH:=dw.cell;replace oF:=dw.free
 replace BR:=aB.later (BR) Wt;replace bJ:=BR.cell;replace bI:=BR.free
 replace B1:=aB.later (B1) Wt;replace cB1:=B1.cell;replace mE:=B1.free
 replace B0:=aB.later (B0) Wt;replace cB0:=B0.cell;replace j4:=B0.free
 go_wp2_with fail
 refine ((dD _ _ q.den h _ aH aH HH.out Kqd.out).mono (by rw [Ec.out];exact fun _ _ h=>h)).mono ?_
 rintro e v11 ⟨v,vr,rfl,uU,hv,jf⟩
 obtain ⟨aC5,lHc,aI0,rfl⟩:=hv.slice;have Hc:=zh hv;clear hv;obtain ⟨ao7,aD1,ax8,rfl⟩:=jf.slice;have Hcr:=zh jf;clear jf
 replace dw:=aB.later (dw) uU;replace oH:=dw.cell;replace oF:=dw.free
 replace BR:=aB.later (BR) uU;replace bJ:=BR.cell;replace bI:=BR.free
 replace B1:=aB.later (B1) uU;replace cB1:=B1.cell;replace mE:=B1.free
 replace B0:=aB.later (B0) uU;replace cB0:=B0.cell;replace j4:=B0.free
 go_wp2_with fail
 refine (eH _ m _ _ aH).mono ?_
 rintro e v12 ⟨v,rfl,Dh,hv⟩
 obtain ⟨aC3,lHv,aH8,rfl,Hv⟩:=hv;replace Hv:=zh Hv
 replace dw:=aB.later (dw) Dh;replace oH:=dw.cell;replace oF:=dw.free
 replace BR:=aB.later (BR) Dh;replace bJ:=BR.cell;replace bI:=BR.free
 go_wp2_with fail
 refine ((jm _ _ r c _ aH aH (Nat.le_trans Kr.out zo) (Nat.le_trans Kc.out zo)).mono (by rw [Ed.out];exact fun _ _ h=>h)).mono ?_
 rintro e v13 ⟨v,rfl,Ws,hv⟩
 obtain ⟨aC4,lHd,aH9,rfl⟩:=hv.slice;have Hd:=zh hv;clear hv
 replace BR:=aB.later (BR) Ws;replace bJ:=BR.cell;replace bI:=BR.free
 go_wp2_with fail
 refine bP rfl rfl aL Tryz.underlying125 rfl zk ?_
 exact ⟨_,rfl,aA,eF.mk (je m (decide (u<0))).natAbs d aH aH (by rw [HP.out.1]) HP.out.2.symm (by rw [HP.out.1])⟩
theorem YR (x y:Value) (p q:Rat) (w:World) (hx:eF w x p) (hy:eF w y q) (kp:eP 1000000 p) (kq:eP 1000000 q) :
  Calls Tryz.prog 148 #[x,y] w (fun e w'=>∃ v,e= .returned v∧Below w.heap.size w w'∧eF w' v (p - q)):=by
 obtain ⟨Iq,lH,Jy,YZ,mH,cbH,rfl,H,Hd⟩:=hx;replace H:=zh H;replace Hd:=zh Hd
 obtain ⟨Qz,lG,QL,pbG,mG,cbG,rfl,G,Gd⟩:=hy;replace G:=zh G;replace Gd:=zh Gd
 rw [Rat.sub_eq_add_neg]
 have KP:=zh kp
 have KQ:=zh (qR kq)
 clear kp kq
 obtain ⟨r,Er⟩:∃ y:Rat,Hid (-q=y):=⟨_,zh rfl⟩
 rw [Er.out] at KQ ⊢
 obtain ⟨s,Es⟩:∃ y:Rat,Hid (p+r=y):=⟨_,zh rfl⟩
 rw [Es.out]
 go_enter Tryz.func148,Tryz.ntmps148
 go_wp2_with fail
 refine aC [(.read,0),(.read,1),(.ext,2),(.ext,3),(.fin,4)] zk zk zR zP ?_
 repeat (first|(refine ah rfl rfl fun J h=>?_;go_simp;refine h _ ?_;clear h J)|(refine au rfl rfl rfl rfl fun J h=>?_;go_simp;refine h _ ?_;clear h J;try go_simp))
 refine aD rfl rfl (fun w1 hb1 J hJ=>?_);go_simp
 have BR:=aB.later (aB.drew (aB.at2 _ _ _ _ _)) hb1;have bJ:=BR.cell;have bI:=BR.free
 refine ((K9 _ q _ (eF.of aH aH)).mono (by rw [Er.out];exact fun _ _ h=>h)).mono ?_
 rintro e v1 ⟨v,rfl,hc1,hv⟩
 obtain ⟨Ip,XK,Jw,KF,Zp,LY,rfl,Hr,yP⟩:=hv;replace Hr:=zh Hr;replace yP:=zh yP
 replace BR:=aB.later (BR) hc1;replace bJ:=BR.cell;replace bI:=BR.free
 refine hJ _ _ hc1 ?_
 clear hJ J
 refine aD rfl rfl (fun w2 hb2 J hJ=>?_);go_simp
 replace BR:=aB.later (BR) hb2;replace bJ:=BR.cell;replace bI:=BR.free
 refine ((Uk _ _ p r _ (eF.of aH aH) (eF.of aH aH) KP.out KQ.out).mono (by rw [Es.out];exact fun _ _ h=>h)).mono ?_
 rintro e v2 ⟨v,rfl,hc2,hv⟩
 obtain ⟨Pg,lHs,Qd,aQ0,mHs,aW1,rfl,Hs,Hsd⟩:=hv;replace Hs:=zh Hs;replace Hsd:=zh Hsd
 replace BR:=aB.later (BR) hc2;replace bJ:=BR.cell;replace bI:=BR.free
 refine hJ _ _ hc2 ?_
 clear hJ J
 repeat (first|(refine ah rfl rfl fun J h=>?_;go_simp;refine h _ ?_;clear h J)|(refine au rfl rfl rfl rfl fun J h=>?_;go_simp;refine h _ ?_;clear h J;try go_simp))
 refine aJ [_] rfl (fun XE IZ=>?_)
 replace BR:=aB.later (BR) IZ;replace bJ:=BR.cell;replace bI:=BR.free
 go_wp2_with fail
 refine bP rfl rfl aL Tryz.underlying125 rfl zk ?_
 exact ⟨_,rfl,aA,eF.of aH aH⟩
theorem vL (w:World) :
  Calls Tryz.prog 145 #[.agg #[.slice none 0 0,.bool false,.slice none 0 0],.int .i64 20] w (fun e w'=>e= .returned (.tuple #[.agg #[.string ⟨#[]⟩,.string ⟨#[]⟩],.int .i64 20])∧Below w.heap.size w w'):=by
 go_enter Tryz.func145,Tryz.ntmps145
 go_wp2_with fail
 refine aP rfl rfl aL Tryz.underlying36 rfl zk ?_
 exact ⟨rfl,aA⟩
theorem xZ (v:Value) (q:Rat) (w:World) (h:eF w v q) (k:eP 1000000 q) (ht:pR.Pow w) :
  Calls Tryz.prog 145 #[v,.int .i64 0] w (fun e w'=>e= .returned (Fr.res (wr q))∧Below w.heap.size w w'):=by
 obtain ⟨Iq,lH,Jy,YZ,mH,cbH,rfl,H,Hd⟩:=h;replace H:=zh H;replace Hd:=zh Hd
 have HT:=zh ht
 have K:=zh k
 clear ht k
 obtain ⟨x,Ex⟩:∃ y:FrI,Hid (wr q=y):=⟨_,zh rfl⟩
 rw [Ex.out]
 obtain ⟨⟨s,t⟩,e⟩:=x
 rw [kK]
 go_enter Tryz.func145,Tryz.ntmps145
 go_wp2_with fail
 refine ((jO _ q _ (eF.of aH aH) K.out (HT.out.later aA)).mono (by rw [Ex.out,kK];exact fun _ _ h=>h)).mono ?_
 rintro e v1 ⟨rfl,hc1⟩
 have BR:=aB.later (aB.mg _ _ _ _) hc1;have bJ:=BR.cell;have bI:=BR.free;have gu:=BR.lt
 go_wp2_with fail
 refine aP rfl rfl aL Tryz.underlying36 rfl zk ?_
 exact ⟨rfl,aA⟩
theorem Qi (s t s' t':ByteArray) (w:World) (p q:Rat) (h:rd ⟨s,t⟩=some p) (k:rd ⟨s',t'⟩=some q) :
  Calls Tryz.prog 146 #[.agg #[.string s,.string t],.agg #[.string s',.string t'],.func (.func 147) #[] #[]] w (fun e w'=>∃ v,e= .returned (.tuple #[v,.int .i64 0])∧Below w.heap.size w w'∧eF w' v (p+q)):=by
 have HR:=zh (dZ h)
 have HS:=zh (dZ k)
 have KP:=zh ((gL (jJ h).2).mono (show 67≤1000000 by omega))
 have KQ:=zh ((gL (jJ k).2).mono (show 67≤1000000 by omega))
 clear h k
 obtain ⟨r,Er⟩:∃ y:Rat,Hid (p+q=y):=⟨_,zh rfl⟩
 rw [Er.out]
 go_enter Tryz.func146,Tryz.ntmps146
 go_wp2_with fail
 refine (HR.out _).mono ?_
 rintro e v1 ⟨v,rfl,hc1,hv⟩
 obtain ⟨CX,UZ,Dm,CW,UY,Dl,rfl,Hp,nW⟩:=hv;replace Hp:=zh Hp;replace nW:=zh nW
 have BR:=aB.later (aB.at2 _ _ _ _ _) hc1;have bJ:=BR.cell;have bI:=BR.free;have gu:=BR.lt
 have B1:=aB.later (aB.alloc (aB.mg _ _ _ _) _) hc1;have cB1:=B1.cell;have mE:=B1.free;have lB1:=B1.lt
 go_wp2_with fail
 refine (HS.out _).mono ?_
 rintro e v2 ⟨v,rfl,hc2,hv⟩
 obtain ⟨yh,Pv,yJ,yg,Pq,yI,rfl,Hq,qM⟩:=hv;replace Hq:=zh Hq;replace qM:=zh qM
 replace Hp:=zh (aM.carry Hp.out aH hc2)
 replace nW:=zh (aM.carry nW.out aH hc2)
 replace X1:aB _ (v1.heap.size) _ _:=aB.later aL hc2;(try simp only [List.setIfInBounds_toArray,List.set_cons_zero,List.set_cons_succ] at X1);replace dW:=X1.cell;replace fG:=X1.free;replace dU:=X1.lt
 replace BR:aB _ (w.heap.size+1+1) _ _:=aB.later aL hc2;(try simp only [List.setIfInBounds_toArray,List.set_cons_zero,List.set_cons_succ] at BR);replace bJ:=BR.cell;replace bI:=BR.free;replace gu:=BR.lt
 go_wp2_with fail
 refine ((Uk _ _ p q _ (eF.of aH aH) (eF.of aH aH) KP.out KQ.out).mono (by rw [Er.out];exact fun _ _ h=>h)).mono ?_
 rintro e v3 ⟨v,rfl,hc3,hv⟩
 obtain ⟨Ip,XK,Jw,KF,Zp,LY,rfl,Hr,yP⟩:=hv;replace Hr:=zh Hr;replace yP:=zh yP
 replace BR:aB _ (w.heap.size+1+1) _ _:=aB.later aL hc3;(try simp only [List.setIfInBounds_toArray,List.set_cons_zero,List.set_cons_succ] at BR);replace bJ:=BR.cell;replace bI:=BR.free;replace gu:=BR.lt
 go_wp2_with fail
 refine aP rfl rfl aL Tryz.underlying125 rfl zk ?_
 exact ⟨_,rfl,aA,eF.of aH aH⟩
theorem Dq (s t s' t':ByteArray) (w:World) (h:rd ⟨s,t⟩=none∨rd ⟨s',t'⟩=none) :
  Calls Tryz.prog 146 #[.agg #[.string s,.string t],.agg #[.string s',.string t'],.func (.func 147) #[] #[]] w (fun e w'=>e= .returned (.tuple #[.agg #[.slice none 0 0,.bool false,.slice none 0 0],.int .i64 20])∧Below w.heap.size w w'):=by
 cases h1:rd ⟨s,t⟩ with
 | none =>
  have HR:=zh (fJ h1)
  cases k:rd ⟨s',t'⟩ with
  | none =>
   have HS:=zh (fJ k)
   clear h k h1
   go_enter Tryz.func146,Tryz.ntmps146
   go_wp2_with fail
   refine (HR.out _).mono ?_
   rintro e v1 ⟨rfl,hc1⟩
   have BR:=aB.later (aB.at2 _ _ _ _ _) hc1;have bJ:=BR.cell;have bI:=BR.free;have gu:=BR.lt
   have B1:=aB.later (aB.alloc (aB.mg _ _ _ _) _) hc1;have cB1:=B1.cell;have mE:=B1.free;have lB1:=B1.lt
   go_wp2_with fail
   refine (HS.out _).mono ?_
   rintro e v2 ⟨rfl,hc2⟩
   replace BR:aB _ (w.heap.size+1+1) _ _:=aB.later aL hc2;replace bJ:=BR.cell;replace bI:=BR.free;replace gu:=BR.lt
   have q1:w.heap.size+1<v2.heap.size:=by omega
   go_wp2_with fail
   refine aP rfl rfl aL Tryz.underlying125 rfl zk ?_
   exact ⟨rfl,aA⟩
  | some q =>
   have HS:=zh (dZ k)
   clear h k h1
   go_enter Tryz.func146,Tryz.ntmps146
   go_wp2_with fail
   refine (HR.out _).mono ?_
   rintro e v1 ⟨rfl,hc1⟩
   have BR:=aB.later (aB.at2 _ _ _ _ _) hc1;have bJ:=BR.cell;have bI:=BR.free;have gu:=BR.lt
   have B1:=aB.later (aB.alloc (aB.mg _ _ _ _) _) hc1;have cB1:=B1.cell;have mE:=B1.free;have lB1:=B1.lt
   go_wp2_with fail
   refine (HS.out _).mono ?_
   rintro e v2 ⟨v,rfl,hc2,hv⟩
   obtain ⟨yh,Pv,yJ,yg,Pq,yI,rfl,Hq,qM⟩:=hv;replace Hq:=zh Hq;replace qM:=zh qM
   replace BR:aB _ (w.heap.size+1+1) _ _:=aB.later aL hc2;replace bJ:=BR.cell;replace bI:=BR.free;replace gu:=BR.lt
   have q1:w.heap.size+1<v2.heap.size:=by omega
   go_wp2_with fail
   refine aP rfl rfl aL Tryz.underlying125 rfl zk ?_
   exact ⟨rfl,aA⟩
 | some p =>
  have HR:=zh (dZ h1)
  cases k:rd ⟨s',t'⟩ with
  | none =>
   have HS:=zh (fJ k)
   clear h k h1
   go_enter Tryz.func146,Tryz.ntmps146
   go_wp2_with fail
   refine (HR.out _).mono ?_
   rintro e v1 ⟨v,rfl,hc1,hv⟩
   obtain ⟨CX,UZ,Dm,CW,UY,Dl,rfl,Hp,nW⟩:=hv;replace Hp:=zh Hp;replace nW:=zh nW
   have BR:=aB.later (aB.at2 _ _ _ _ _) hc1;have bJ:=BR.cell;have bI:=BR.free;have gu:=BR.lt
   have B1:=aB.later (aB.alloc (aB.mg _ _ _ _) _) hc1;have cB1:=B1.cell;have mE:=B1.free;have lB1:=B1.lt
   go_wp2_with fail
   refine (HS.out _).mono ?_
   rintro e v2 ⟨rfl,hc2⟩
   replace BR:aB _ (w.heap.size+1+1) _ _:=aB.later aL hc2;replace bJ:=BR.cell;replace bI:=BR.free;replace gu:=BR.lt
   have q1:w.heap.size+1<v2.heap.size:=by omega
   go_wp2_with fail
   refine aP rfl rfl aL Tryz.underlying125 rfl zk ?_
   exact ⟨rfl,aA⟩
  | some q=>rw [h1,k] at h;simp at h
theorem Cv (a b:Fr) (w:World) (ht:pR.Pow w) :
  Calls Tryz.prog 89 #[a.v,b.v] w (fun e w'=>e= .returned (Fr.res (JI a b))∧Below w.heap.size w w'):=by
 obtain ⟨s,t⟩:=a
 obtain ⟨s',t'⟩:=b
 show Calls _ _ #[.agg #[.string s,.string t],.agg #[.string s',.string t']] _ _
 unfold JI
 have HT:=zh ht
 clear ht
 by_cases hbad:rd ⟨s,t⟩=none∨rd ⟨s',t'⟩=none
 ·have e:∀ f,bin f ⟨s,t⟩ ⟨s',t'⟩=(Fr.no,20):=fun f=>by
   rcases hbad with h|h
   ·exact pI h
   ·exact pG h
  rw [e]
  have HA:=zh (fun w=>Dq s t s' t' w hbad)
  clear hbad e
  go_enter Tryz.func89,Tryz.ntmps89
  go_wp2_with fail
  refine (HA.out _).mono ?_
  rintro e v1 ⟨rfl,hc1⟩
  have BR:=aB.later (aB.at2 _ _ _ _ _) hc1;have bJ:=BR.cell;have bI:=BR.free;have gu:=BR.lt
  go_wp2_with fail
  refine (vL _).mono ?_
  rintro e v2 ⟨rfl,hc2⟩
  replace BR:=aB.later (BR) hc2;replace bJ:=BR.cell;replace bI:=BR.free;replace gu:=BR.lt
  go_wp2_with fail
  refine aP rfl rfl aL Tryz.underlying36 rfl zk ?_
  exact ⟨rfl,aA⟩
 ·obtain ⟨p,hp⟩:∃ p,rd ⟨s,t⟩=some p:=Option.ne_none_iff_exists'.1 (fun e=>hbad (.inl e))
  obtain ⟨q,hq⟩:∃ q,rd ⟨s',t'⟩=some q:=Option.ne_none_iff_exists'.1 (fun e=>hbad (.inr e))
  rw [iL hp hq]
  have KP:=zh (gL (jJ hp).2)
  have KQ:=zh (gL (jJ hq).2)
  have HA:=zh (fun w=>Qi s t s' t' w p q hp hq)
  have KR:Hid (eP 1000000 (p+q)):=zh (eP.mono (k:=135) (uj KP.out KQ.out) zo)
  clear hp hq hbad KP KQ
  obtain ⟨r,Er⟩:∃ y:Rat,Hid (p+q=y):=⟨_,zh rfl⟩
  simp only [Er.out] at KR HA ⊢
  obtain ⟨x,Ex⟩:∃ y:FrI,Hid (wr r=y):=⟨_,zh rfl⟩
  rw [Ex.out]
  obtain ⟨⟨s1,t1⟩,e⟩:=x
  rw [kK]
  go_enter Tryz.func89,Tryz.ntmps89
  go_wp2_with fail
  refine (HA.out _).mono ?_
  rintro e v1 ⟨v,rfl,hc1,hv⟩
  obtain ⟨Ip,XK,Jw,KF,Zp,LY,rfl,Hr,yP⟩:=hv;replace Hr:=zh Hr;replace yP:=zh yP
  have BR:=aB.later (aB.at2 _ _ _ _ _) hc1;have bJ:=BR.cell;have bI:=BR.free;have gu:=BR.lt
  go_wp2_with fail
  refine ((xZ _ r _ (eF.of aH aH) KR.out (HT.out.later aA)).mono (by rw [Ex.out,kK];exact fun _ _ h=>h)).mono ?_
  rintro e v2 ⟨rfl,hc2⟩
  replace BR:=aB.later (BR) hc2;replace bJ:=BR.cell;replace bI:=BR.free;replace gu:=BR.lt
  go_wp2_with fail
  refine aP rfl rfl aL Tryz.underlying36 rfl zk ?_
  exact ⟨rfl,aA⟩
theorem Qg (s t s' t':ByteArray) (w:World) (p q:Rat) (h:rd ⟨s,t⟩=some p) (k:rd ⟨s',t'⟩=some q) :
  Calls Tryz.prog 146 #[.agg #[.string s,.string t],.agg #[.string s',.string t'],.func (.func 148) #[] #[]] w (fun e w'=>∃ v,e= .returned (.tuple #[v,.int .i64 0])∧Below w.heap.size w w'∧eF w' v (p - q)):=by
 have HR:=zh (dZ h)
 have HS:=zh (dZ k)
 have KP:=zh ((gL (jJ h).2).mono (show 67≤1000000 by omega))
 have KQ:=zh ((gL (jJ k).2).mono (show 67≤1000000 by omega))
 clear h k
 obtain ⟨r,Er⟩:∃ y:Rat,Hid (p - q=y):=⟨_,zh rfl⟩
 rw [Er.out]
 go_enter Tryz.func146,Tryz.ntmps146
 go_wp2_with fail
 refine (HR.out _).mono ?_
 rintro e v1 ⟨v,rfl,hc1,hv⟩
 obtain ⟨CX,UZ,Dm,CW,UY,Dl,rfl,Hp,nW⟩:=hv;replace Hp:=zh Hp;replace nW:=zh nW
 have BR:=aB.later (aB.at2 _ _ _ _ _) hc1;have bJ:=BR.cell;have bI:=BR.free;have gu:=BR.lt
 have B1:=aB.later (aB.alloc (aB.mg _ _ _ _) _) hc1;have cB1:=B1.cell;have mE:=B1.free;have lB1:=B1.lt
 go_wp2_with fail
 refine (HS.out _).mono ?_
 rintro e v2 ⟨v,rfl,hc2,hv⟩
 obtain ⟨yh,Pv,yJ,yg,Pq,yI,rfl,Hq,qM⟩:=hv;replace Hq:=zh Hq;replace qM:=zh qM
 replace Hp:=zh (aM.carry Hp.out aH hc2)
 replace nW:=zh (aM.carry nW.out aH hc2)
 replace X1:aB _ (v1.heap.size) _ _:=aB.later aL hc2;(try simp only [List.setIfInBounds_toArray,List.set_cons_zero,List.set_cons_succ] at X1);replace dW:=X1.cell;replace fG:=X1.free;replace dU:=X1.lt
 replace BR:aB _ (w.heap.size+1+1) _ _:=aB.later aL hc2;(try simp only [List.setIfInBounds_toArray,List.set_cons_zero,List.set_cons_succ] at BR);replace bJ:=BR.cell;replace bI:=BR.free;replace gu:=BR.lt
 go_wp2_with fail
 refine ((YR _ _ p q _ (eF.of aH aH) (eF.of aH aH) KP.out KQ.out).mono (by rw [Er.out];exact fun _ _ h=>h)).mono ?_
 rintro e v3 ⟨v,rfl,hc3,hv⟩
 obtain ⟨Ip,XK,Jw,KF,Zp,LY,rfl,Hr,yP⟩:=hv;replace Hr:=zh Hr;replace yP:=zh yP
 replace BR:aB _ (w.heap.size+1+1) _ _:=aB.later aL hc3;(try simp only [List.setIfInBounds_toArray,List.set_cons_zero,List.set_cons_succ] at BR);replace bJ:=BR.cell;replace bI:=BR.free;replace gu:=BR.lt
 go_wp2_with fail
 refine aP rfl rfl aL Tryz.underlying125 rfl zk ?_
 exact ⟨_,rfl,aA,eF.of aH aH⟩
theorem Dn (s t s' t':ByteArray) (w:World) (h:rd ⟨s,t⟩=none∨rd ⟨s',t'⟩=none) :
  Calls Tryz.prog 146 #[.agg #[.string s,.string t],.agg #[.string s',.string t'],.func (.func 148) #[] #[]] w (fun e w'=>e= .returned (.tuple #[.agg #[.slice none 0 0,.bool false,.slice none 0 0],.int .i64 20])∧Below w.heap.size w w'):=by
 cases h1:rd ⟨s,t⟩ with
 | none =>
  have HR:=zh (fJ h1)
  cases k:rd ⟨s',t'⟩ with
  | none =>
   have HS:=zh (fJ k)
   clear h k h1
   go_enter Tryz.func146,Tryz.ntmps146
   go_wp2_with fail
   refine (HR.out _).mono ?_
   rintro e v1 ⟨rfl,hc1⟩
   have BR:=aB.later (aB.at2 _ _ _ _ _) hc1;have bJ:=BR.cell;have bI:=BR.free;have gu:=BR.lt
   have B1:=aB.later (aB.alloc (aB.mg _ _ _ _) _) hc1;have cB1:=B1.cell;have mE:=B1.free;have lB1:=B1.lt
   go_wp2_with fail
   refine (HS.out _).mono ?_
   rintro e v2 ⟨rfl,hc2⟩
   replace BR:aB _ (w.heap.size+1+1) _ _:=aB.later aL hc2;replace bJ:=BR.cell;replace bI:=BR.free;replace gu:=BR.lt
   have q1:w.heap.size+1<v2.heap.size:=by omega
   go_wp2_with fail
   refine aP rfl rfl aL Tryz.underlying125 rfl zk ?_
   exact ⟨rfl,aA⟩
  | some q =>
   have HS:=zh (dZ k)
   clear h k h1
   go_enter Tryz.func146,Tryz.ntmps146
   go_wp2_with fail
   refine (HR.out _).mono ?_
   rintro e v1 ⟨rfl,hc1⟩
   have BR:=aB.later (aB.at2 _ _ _ _ _) hc1;have bJ:=BR.cell;have bI:=BR.free;have gu:=BR.lt
   have B1:=aB.later (aB.alloc (aB.mg _ _ _ _) _) hc1;have cB1:=B1.cell;have mE:=B1.free;have lB1:=B1.lt
   go_wp2_with fail
   refine (HS.out _).mono ?_
   rintro e v2 ⟨v,rfl,hc2,hv⟩
   obtain ⟨yh,Pv,yJ,yg,Pq,yI,rfl,Hq,qM⟩:=hv;replace Hq:=zh Hq;replace qM:=zh qM
   replace BR:aB _ (w.heap.size+1+1) _ _:=aB.later aL hc2;replace bJ:=BR.cell;replace bI:=BR.free;replace gu:=BR.lt
   have q1:w.heap.size+1<v2.heap.size:=by omega
   go_wp2_with fail
   refine aP rfl rfl aL Tryz.underlying125 rfl zk ?_
   exact ⟨rfl,aA⟩
 | some p =>
  have HR:=zh (dZ h1)
  cases k:rd ⟨s',t'⟩ with
  | none =>
   have HS:=zh (fJ k)
   clear h k h1
   go_enter Tryz.func146,Tryz.ntmps146
   go_wp2_with fail
   refine (HR.out _).mono ?_
   rintro e v1 ⟨v,rfl,hc1,hv⟩
   obtain ⟨CX,UZ,Dm,CW,UY,Dl,rfl,Hp,nW⟩:=hv;replace Hp:=zh Hp;replace nW:=zh nW
   have BR:=aB.later (aB.at2 _ _ _ _ _) hc1;have bJ:=BR.cell;have bI:=BR.free;have gu:=BR.lt
   have B1:=aB.later (aB.alloc (aB.mg _ _ _ _) _) hc1;have cB1:=B1.cell;have mE:=B1.free;have lB1:=B1.lt
   go_wp2_with fail
   refine (HS.out _).mono ?_
   rintro e v2 ⟨rfl,hc2⟩
   replace BR:aB _ (w.heap.size+1+1) _ _:=aB.later aL hc2;replace bJ:=BR.cell;replace bI:=BR.free;replace gu:=BR.lt
   have q1:w.heap.size+1<v2.heap.size:=by omega
   go_wp2_with fail
   refine aP rfl rfl aL Tryz.underlying125 rfl zk ?_
   exact ⟨rfl,aA⟩
  | some q=>rw [h1,k] at h;simp at h
theorem Ch (a b:Fr) (w:World) (ht:pR.Pow w) :
  Calls Tryz.prog 90 #[a.v,b.v] w (fun e w'=>e= .returned (Fr.res (Fw a b))∧Below w.heap.size w w'):=by
 obtain ⟨s,t⟩:=a
 obtain ⟨s',t'⟩:=b
 show Calls _ _ #[.agg #[.string s,.string t],.agg #[.string s',.string t']] _ _
 unfold Fw
 have HT:=zh ht
 clear ht
 by_cases hbad:rd ⟨s,t⟩=none∨rd ⟨s',t'⟩=none
 ·have e:∀ f,bin f ⟨s,t⟩ ⟨s',t'⟩=(Fr.no,20):=fun f=>by
   rcases hbad with h|h
   ·exact pI h
   ·exact pG h
  rw [e]
  have HA:=zh (fun w=>Dn s t s' t' w hbad)
  clear hbad e
  go_enter Tryz.func90,Tryz.ntmps90
  go_wp2_with fail
  refine (HA.out _).mono ?_
  rintro e v1 ⟨rfl,hc1⟩
  have BR:=aB.later (aB.at2 _ _ _ _ _) hc1;have bJ:=BR.cell;have bI:=BR.free;have gu:=BR.lt
  go_wp2_with fail
  refine (vL _).mono ?_
  rintro e v2 ⟨rfl,hc2⟩
  replace BR:=aB.later (BR) hc2;replace bJ:=BR.cell;replace bI:=BR.free;replace gu:=BR.lt
  go_wp2_with fail
  refine aP rfl rfl aL Tryz.underlying36 rfl zk ?_
  exact ⟨rfl,aA⟩
 ·obtain ⟨p,hp⟩:∃ p,rd ⟨s,t⟩=some p:=Option.ne_none_iff_exists'.1 (fun e=>hbad (.inl e))
  obtain ⟨q,hq⟩:∃ q,rd ⟨s',t'⟩=some q:=Option.ne_none_iff_exists'.1 (fun e=>hbad (.inr e))
  rw [iL hp hq]
  have KP:=zh (gL (jJ hp).2)
  have KQ:=zh (gL (jJ hq).2)
  have HA:=zh (fun w=>Qg s t s' t' w p q hp hq)
  have KR:Hid (eP 1000000 (p - q)):=zh (eP.mono (k:=135) (by rw [Rat.sub_eq_add_neg];exact uj KP.out (qR KQ.out)) zo)
  clear hp hq hbad KP KQ
  obtain ⟨r,Er⟩:∃ y:Rat,Hid (p - q=y):=⟨_,zh rfl⟩
  simp only [Er.out] at KR HA ⊢
  obtain ⟨x,Ex⟩:∃ y:FrI,Hid (wr r=y):=⟨_,zh rfl⟩
  rw [Ex.out]
  obtain ⟨⟨s1,t1⟩,e⟩:=x
  rw [kK]
  go_enter Tryz.func90,Tryz.ntmps90
  go_wp2_with fail
  refine (HA.out _).mono ?_
  rintro e v1 ⟨v,rfl,hc1,hv⟩
  obtain ⟨Ip,XK,Jw,KF,Zp,LY,rfl,Hr,yP⟩:=hv;replace Hr:=zh Hr;replace yP:=zh yP
  have BR:=aB.later (aB.at2 _ _ _ _ _) hc1;have bJ:=BR.cell;have bI:=BR.free;have gu:=BR.lt
  go_wp2_with fail
  refine ((xZ _ r _ (eF.of aH aH) KR.out (HT.out.later aA)).mono (by rw [Ex.out,kK];exact fun _ _ h=>h)).mono ?_
  rintro e v2 ⟨rfl,hc2⟩
  replace BR:=aB.later (BR) hc2;replace bJ:=BR.cell;replace bI:=BR.free;replace gu:=BR.lt
  go_wp2_with fail
  refine aP rfl rfl aL Tryz.underlying36 rfl zk ?_
  exact ⟨rfl,aA⟩
theorem Qh (s t s' t':ByteArray) (w:World) (p q:Rat) (h:rd ⟨s,t⟩=some p) (k:rd ⟨s',t'⟩=some q) :
  Calls Tryz.prog 146 #[.agg #[.string s,.string t],.agg #[.string s',.string t'],.func (.func 142) #[] #[]] w (fun e w'=>∃ v,e= .returned (.tuple #[v,.int .i64 0])∧Below w.heap.size w w'∧eF w' v (p*q)):=by
 have HR:=zh (dZ h)
 have HS:=zh (dZ k)
 have KP:=zh ((gL (jJ h).2).mono (show 67≤1000000 by omega))
 have KQ:=zh ((gL (jJ k).2).mono (show 67≤1000000 by omega))
 clear h k
 obtain ⟨r,Er⟩:∃ y:Rat,Hid (p*q=y):=⟨_,zh rfl⟩
 rw [Er.out]
 go_enter Tryz.func146,Tryz.ntmps146
 go_wp2_with fail
 refine (HR.out _).mono ?_
 rintro e v1 ⟨v,rfl,hc1,hv⟩
 obtain ⟨CX,UZ,Dm,CW,UY,Dl,rfl,Hp,nW⟩:=hv;replace Hp:=zh Hp;replace nW:=zh nW
 have BR:=aB.later (aB.at2 _ _ _ _ _) hc1;have bJ:=BR.cell;have bI:=BR.free;have gu:=BR.lt
 have B1:=aB.later (aB.alloc (aB.mg _ _ _ _) _) hc1;have cB1:=B1.cell;have mE:=B1.free;have lB1:=B1.lt
 go_wp2_with fail
 refine (HS.out _).mono ?_
 rintro e v2 ⟨v,rfl,hc2,hv⟩
 obtain ⟨yh,Pv,yJ,yg,Pq,yI,rfl,Hq,qM⟩:=hv;replace Hq:=zh Hq;replace qM:=zh qM
 replace Hp:=zh (aM.carry Hp.out aH hc2)
 replace nW:=zh (aM.carry nW.out aH hc2)
 replace X1:aB _ (v1.heap.size) _ _:=aB.later aL hc2;(try simp only [List.setIfInBounds_toArray,List.set_cons_zero,List.set_cons_succ] at X1);replace dW:=X1.cell;replace fG:=X1.free;replace dU:=X1.lt
 replace BR:aB _ (w.heap.size+1+1) _ _:=aB.later aL hc2;(try simp only [List.setIfInBounds_toArray,List.set_cons_zero,List.set_cons_succ] at BR);replace bJ:=BR.cell;replace bI:=BR.free;replace gu:=BR.lt
 go_wp2_with fail
 refine ((RZ _ _ p q _ (eF.of aH aH) (eF.of aH aH) KP.out KQ.out).mono (by rw [Er.out];exact fun _ _ h=>h)).mono ?_
 rintro e v3 ⟨v,rfl,hc3,hv⟩
 obtain ⟨Ip,XK,Jw,KF,Zp,LY,rfl,Hr,yP⟩:=hv;replace Hr:=zh Hr;replace yP:=zh yP
 replace BR:aB _ (w.heap.size+1+1) _ _:=aB.later aL hc3;(try simp only [List.setIfInBounds_toArray,List.set_cons_zero,List.set_cons_succ] at BR);replace bJ:=BR.cell;replace bI:=BR.free;replace gu:=BR.lt
 go_wp2_with fail
 refine aP rfl rfl aL Tryz.underlying125 rfl zk ?_
 exact ⟨_,rfl,aA,eF.of aH aH⟩
theorem Dp (s t s' t':ByteArray) (w:World) (h:rd ⟨s,t⟩=none∨rd ⟨s',t'⟩=none) :
  Calls Tryz.prog 146 #[.agg #[.string s,.string t],.agg #[.string s',.string t'],.func (.func 142) #[] #[]] w (fun e w'=>e= .returned (.tuple #[.agg #[.slice none 0 0,.bool false,.slice none 0 0],.int .i64 20])∧Below w.heap.size w w'):=by
 cases h1:rd ⟨s,t⟩ with
 | none =>
  have HR:=zh (fJ h1)
  cases k:rd ⟨s',t'⟩ with
  | none =>
   have HS:=zh (fJ k)
   clear h k h1
   go_enter Tryz.func146,Tryz.ntmps146
   go_wp2_with fail
   refine (HR.out _).mono ?_
   rintro e v1 ⟨rfl,hc1⟩
   have BR:=aB.later (aB.at2 _ _ _ _ _) hc1;have bJ:=BR.cell;have bI:=BR.free;have gu:=BR.lt
   have B1:=aB.later (aB.alloc (aB.mg _ _ _ _) _) hc1;have cB1:=B1.cell;have mE:=B1.free;have lB1:=B1.lt
   go_wp2_with fail
   refine (HS.out _).mono ?_
   rintro e v2 ⟨rfl,hc2⟩
   replace BR:aB _ (w.heap.size+1+1) _ _:=aB.later aL hc2;replace bJ:=BR.cell;replace bI:=BR.free;replace gu:=BR.lt
   have q1:w.heap.size+1<v2.heap.size:=by omega
   go_wp2_with fail
   refine aP rfl rfl aL Tryz.underlying125 rfl zk ?_
   exact ⟨rfl,aA⟩
  | some q =>
   have HS:=zh (dZ k)
   clear h k h1
   go_enter Tryz.func146,Tryz.ntmps146
   go_wp2_with fail
   refine (HR.out _).mono ?_
   rintro e v1 ⟨rfl,hc1⟩
   have BR:=aB.later (aB.at2 _ _ _ _ _) hc1;have bJ:=BR.cell;have bI:=BR.free;have gu:=BR.lt
   have B1:=aB.later (aB.alloc (aB.mg _ _ _ _) _) hc1;have cB1:=B1.cell;have mE:=B1.free;have lB1:=B1.lt
   go_wp2_with fail
   refine (HS.out _).mono ?_
   rintro e v2 ⟨v,rfl,hc2,hv⟩
   obtain ⟨yh,Pv,yJ,yg,Pq,yI,rfl,Hq,qM⟩:=hv;replace Hq:=zh Hq;replace qM:=zh qM
   replace BR:aB _ (w.heap.size+1+1) _ _:=aB.later aL hc2;replace bJ:=BR.cell;replace bI:=BR.free;replace gu:=BR.lt
   have q1:w.heap.size+1<v2.heap.size:=by omega
   go_wp2_with fail
   refine aP rfl rfl aL Tryz.underlying125 rfl zk ?_
   exact ⟨rfl,aA⟩
 | some p =>
  have HR:=zh (dZ h1)
  cases k:rd ⟨s',t'⟩ with
  | none =>
   have HS:=zh (fJ k)
   clear h k h1
   go_enter Tryz.func146,Tryz.ntmps146
   go_wp2_with fail
   refine (HR.out _).mono ?_
   rintro e v1 ⟨v,rfl,hc1,hv⟩
   obtain ⟨CX,UZ,Dm,CW,UY,Dl,rfl,Hp,nW⟩:=hv;replace Hp:=zh Hp;replace nW:=zh nW
   have BR:=aB.later (aB.at2 _ _ _ _ _) hc1;have bJ:=BR.cell;have bI:=BR.free;have gu:=BR.lt
   have B1:=aB.later (aB.alloc (aB.mg _ _ _ _) _) hc1;have cB1:=B1.cell;have mE:=B1.free;have lB1:=B1.lt
   go_wp2_with fail
   refine (HS.out _).mono ?_
   rintro e v2 ⟨rfl,hc2⟩
   replace BR:aB _ (w.heap.size+1+1) _ _:=aB.later aL hc2;replace bJ:=BR.cell;replace bI:=BR.free;replace gu:=BR.lt
   have q1:w.heap.size+1<v2.heap.size:=by omega
   go_wp2_with fail
   refine aP rfl rfl aL Tryz.underlying125 rfl zk ?_
   exact ⟨rfl,aA⟩
  | some q=>rw [h1,k] at h;simp at h
theorem tV (a b:Fr) (w:World) (ht:pR.Pow w) :
  Calls Tryz.prog 88 #[a.v,b.v] w (fun e w'=>e= .returned (Fr.res (IC a b))∧Below w.heap.size w w'):=by
 obtain ⟨s,t⟩:=a
 obtain ⟨s',t'⟩:=b
 show Calls _ _ #[.agg #[.string s,.string t],.agg #[.string s',.string t']] _ _
 unfold IC
 have HT:=zh ht
 clear ht
 by_cases hbad:rd ⟨s,t⟩=none∨rd ⟨s',t'⟩=none
 ·have e:∀ f,bin f ⟨s,t⟩ ⟨s',t'⟩=(Fr.no,20):=fun f=>by
   rcases hbad with h|h
   ·exact pI h
   ·exact pG h
  rw [e]
  have HA:=zh (fun w=>Dp s t s' t' w hbad)
  clear hbad e
  go_enter Tryz.func88,Tryz.ntmps88
  go_wp2_with fail
  refine (HA.out _).mono ?_
  rintro e v1 ⟨rfl,hc1⟩
  have BR:=aB.later (aB.at2 _ _ _ _ _) hc1;have bJ:=BR.cell;have bI:=BR.free;have gu:=BR.lt
  go_wp2_with fail
  refine (vL _).mono ?_
  rintro e v2 ⟨rfl,hc2⟩
  replace BR:=aB.later (BR) hc2;replace bJ:=BR.cell;replace bI:=BR.free;replace gu:=BR.lt
  go_wp2_with fail
  refine aP rfl rfl aL Tryz.underlying36 rfl zk ?_
  exact ⟨rfl,aA⟩
 ·obtain ⟨p,hp⟩:∃ p,rd ⟨s,t⟩=some p:=Option.ne_none_iff_exists'.1 (fun e=>hbad (.inl e))
  obtain ⟨q,hq⟩:∃ q,rd ⟨s',t'⟩=some q:=Option.ne_none_iff_exists'.1 (fun e=>hbad (.inr e))
  rw [iL hp hq]
  have KP:=zh (gL (jJ hp).2)
  have KQ:=zh (gL (jJ hq).2)
  have HA:=zh (fun w=>Qh s t s' t' w p q hp hq)
  have KR:Hid (eP 1000000 (p*q)):=zh (eP.mono (k:=135) ((qU KP.out KQ.out).mono zo) zo)
  clear hp hq hbad KP KQ
  obtain ⟨r,Er⟩:∃ y:Rat,Hid (p*q=y):=⟨_,zh rfl⟩
  simp only [Er.out] at KR HA ⊢
  obtain ⟨x,Ex⟩:∃ y:FrI,Hid (wr r=y):=⟨_,zh rfl⟩
  rw [Ex.out]
  obtain ⟨⟨s1,t1⟩,e⟩:=x
  rw [kK]
  go_enter Tryz.func88,Tryz.ntmps88
  go_wp2_with fail
  refine (HA.out _).mono ?_
  rintro e v1 ⟨v,rfl,hc1,hv⟩
  obtain ⟨Ip,XK,Jw,KF,Zp,LY,rfl,Hr,yP⟩:=hv;replace Hr:=zh Hr;replace yP:=zh yP
  have BR:=aB.later (aB.at2 _ _ _ _ _) hc1;have bJ:=BR.cell;have bI:=BR.free;have gu:=BR.lt
  go_wp2_with fail
  refine ((xZ _ r _ (eF.of aH aH) KR.out (HT.out.later aA)).mono (by rw [Ex.out,kK];exact fun _ _ h=>h)).mono ?_
  rintro e v2 ⟨rfl,hc2⟩
  replace BR:=aB.later (BR) hc2;replace bJ:=BR.cell;replace bI:=BR.free;replace gu:=BR.lt
  go_wp2_with fail
  refine aP rfl rfl aL Tryz.underlying36 rfl zk ?_
  exact ⟨rfl,aA⟩
theorem WJ (s t s' t':ByteArray) (w:World) (h:rd ⟨s,t⟩=none∨rd ⟨s',t'⟩=none) :
  Calls Tryz.prog 87 #[.agg #[.string s,.string t],.agg #[.string s',.string t']] w (fun e w'=>e= .returned (.tuple #[.agg #[.string ⟨#[]⟩,.string ⟨#[]⟩],.int .i64 20])∧Below w.heap.size w w'):=by
 cases h1:rd ⟨s,t⟩ with
 | none =>
  have HR:=zh (fJ h1)
  cases k:rd ⟨s',t'⟩ with
  | none =>
   have HS:=zh (fJ k)
   clear h k h1
   go_enter Tryz.func87,Tryz.ntmps87
   go_wp2_with fail
   refine (HR.out _).mono ?_
   rintro e v1 ⟨rfl,hc1⟩
   have BR:=aB.later (aB.at2 _ _ _ _ _) hc1;have bJ:=BR.cell;have bI:=BR.free;have gu:=BR.lt
   have B1:=aB.later (aB.alloc (aB.mg _ _ _ _) _) hc1;have cB1:=B1.cell;have mE:=B1.free;have lB1:=B1.lt
   go_wp2_with fail
   refine (HS.out _).mono ?_
   rintro e v2 ⟨rfl,hc2⟩
   replace BR:aB _ (w.heap.size+1+1) _ _:=aB.later aL hc2;(try simp only [List.setIfInBounds_toArray,List.set_cons_zero,List.set_cons_succ] at BR);replace bJ:=BR.cell;replace bI:=BR.free;replace gu:=BR.lt
   go_wp2_with fail
   refine aP rfl rfl aL Tryz.underlying36 rfl zk ?_
   exact ⟨rfl,aA⟩
  | some q =>
   have HS:=zh (dZ k)
   clear h k h1
   go_enter Tryz.func87,Tryz.ntmps87
   go_wp2_with fail
   refine (HR.out _).mono ?_
   rintro e v1 ⟨rfl,hc1⟩
   have BR:=aB.later (aB.at2 _ _ _ _ _) hc1;have bJ:=BR.cell;have bI:=BR.free;have gu:=BR.lt
   have B1:=aB.later (aB.alloc (aB.mg _ _ _ _) _) hc1;have cB1:=B1.cell;have mE:=B1.free;have lB1:=B1.lt
   go_wp2_with fail
   refine (HS.out _).mono ?_
   rintro e v2 ⟨v,rfl,hc2,hv⟩
   obtain ⟨yh,Pv,yJ,yg,Pq,yI,rfl,Hq,qM⟩:=hv;replace Hq:=zh Hq;replace qM:=zh qM
   replace BR:aB _ (w.heap.size+1+1) _ _:=aB.later aL hc2;(try simp only [List.setIfInBounds_toArray,List.set_cons_zero,List.set_cons_succ] at BR);replace bJ:=BR.cell;replace bI:=BR.free;replace gu:=BR.lt
   go_wp2_with fail
   refine aP rfl rfl aL Tryz.underlying36 rfl zk ?_
   exact ⟨rfl,aA⟩
 | some p =>
  have HR:=zh (dZ h1)
  cases k:rd ⟨s',t'⟩ with
  | none =>
   have HS:=zh (fJ k)
   clear h k h1
   go_enter Tryz.func87,Tryz.ntmps87
   go_wp2_with fail
   refine (HR.out _).mono ?_
   rintro e v1 ⟨v,rfl,hc1,hv⟩
   obtain ⟨CX,UZ,Dm,CW,UY,Dl,rfl,Hp,nW⟩:=hv;replace Hp:=zh Hp;replace nW:=zh nW
   have BR:=aB.later (aB.at2 _ _ _ _ _) hc1;have bJ:=BR.cell;have bI:=BR.free;have gu:=BR.lt
   have B1:=aB.later (aB.alloc (aB.mg _ _ _ _) _) hc1;have cB1:=B1.cell;have mE:=B1.free;have lB1:=B1.lt
   go_wp2_with fail
   refine (HS.out _).mono ?_
   rintro e v2 ⟨rfl,hc2⟩
   replace BR:aB _ (w.heap.size+1+1) _ _:=aB.later aL hc2;(try simp only [List.setIfInBounds_toArray,List.set_cons_zero,List.set_cons_succ] at BR);replace bJ:=BR.cell;replace bI:=BR.free;replace gu:=BR.lt
   go_wp2_with fail
   refine aP rfl rfl aL Tryz.underlying36 rfl zk ?_
   exact ⟨rfl,aA⟩
  | some q=>rw [h1,k] at h;simp at h
theorem div_zero (s t s' t':ByteArray) (w:World) (p:Rat) (h:rd ⟨s,t⟩=some p) (k:rd ⟨s',t'⟩=some 0) :
  Calls Tryz.prog 87 #[.agg #[.string s,.string t],.agg #[.string s',.string t']] w (fun e w'=>e= .returned (.tuple #[.agg #[.string ⟨#[]⟩,.string ⟨#[]⟩],.int .i64 7])∧Below w.heap.size w w'):=by
 have HR:=zh (dZ h)
 have HS:=zh (dZ k)
 clear h k
 obtain ⟨n,En⟩:∃ y:Nat,Hid ((0:Rat).num.natAbs=y):=⟨_,zh rfl⟩
 have hz:decide (n=0)=true:=by rw [← En.out];rfl
 have HZ:=zh hz
 clear hz
 go_enter Tryz.func87,Tryz.ntmps87
 go_wp2_with fail
 refine (HR.out _).mono ?_
 rintro e v1 ⟨v,rfl,hc1,hv⟩
 obtain ⟨CX,UZ,Dm,CW,UY,Dl,rfl,Hp,nW⟩:=hv;replace Hp:=zh Hp;replace nW:=zh nW
 have BR:=aB.later (aB.at2 _ _ _ _ _) hc1;have bJ:=BR.cell;have bI:=BR.free;have gu:=BR.lt
 have B1:=aB.later (aB.alloc (aB.mg _ _ _ _) _) hc1;have cB1:=B1.cell;have mE:=B1.free;have lB1:=B1.lt
 go_wp2_with fail
 refine (HS.out _).mono ?_
 rintro e v2 ⟨v,rfl,hc2,hv⟩
 obtain ⟨yh,Pv,yJ,yg,Pq,yI,rfl,Hq,qM⟩:=hv;replace Hq:=zh Hq;replace qM:=zh qM
 replace BR:aB _ (w.heap.size+1+1) _ _:=aB.later aL hc2;(try simp only [List.setIfInBounds_toArray,List.set_cons_zero,List.set_cons_succ] at BR);replace bJ:=BR.cell;replace bI:=BR.free;replace gu:=BR.lt
 go_wp2_with fail
 rw [En.out] at Hq
 refine (iq _ n _ aH).mono ?_
 rintro e v5 ⟨rfl,rfl⟩
 rw [HZ.out]
 go_wp2_with fail
 refine aP rfl rfl aL Tryz.underlying36 rfl zk ?_
 exact ⟨rfl,aA⟩
theorem TP (s t s' t':ByteArray) (w:World) (p q:Rat) (h:rd ⟨s,t⟩=some p) (k:rd ⟨s',t'⟩=some q) (h0:q≠0) (ht:pR.Pow w) :
  Calls Tryz.prog 87 #[.agg #[.string s,.string t],.agg #[.string s',.string t']] w (fun e w'=>e= .returned (Fr.res (wr (p / q)))∧Below w.heap.size w w'):=by
 have HR:=zh (dZ h)
 have HS:=zh (dZ k)
 have kp:=gL (jJ h).2
 have kq:=gL (jJ k).2
 have ki:=Fu kq h0
 have hz:decide (q.num.natAbs=0)=false:=by
  simp [h0]
 have HZ:=zh hz
 have HQ0:=zh h0
 have HT:=zh ht
 rw [Rat.div_def]
 have km:=qU kp ki
 obtain ⟨i,Ei⟩:∃ y:Rat,Hid (q⁻¹=y):=⟨_,zh rfl⟩
 rw [Ei.out] at km ki ⊢
 obtain ⟨r,Er⟩:∃ y:Rat,Hid (p*i=y):=⟨_,zh rfl⟩
 rw [Er.out] at km ⊢
 have KP:=zh (kp.mono (show 67≤1000000 by omega))
 have KI:=zh (ki.mono (show 67≤1000000 by omega))
 have KR:=zh (km.mono (show 2*67≤1000000 by omega))
 obtain ⟨x,Ex⟩:∃ y:FrI,Hid (wr r=y):=⟨_,zh rfl⟩
 rw [Ex.out]
 obtain ⟨⟨s1,t1⟩,e⟩:=x
 rw [kK]
 clear h k kp kq ki hz h0 ht km
 go_enter Tryz.func87,Tryz.ntmps87
 go_wp2_with fail
 refine (HR.out _).mono ?_
 rintro e v1 ⟨v,rfl,hc1,hv⟩
 obtain ⟨CX,UZ,Dm,CW,UY,Dl,rfl,Hp,nW⟩:=hv;replace Hp:=zh Hp;replace nW:=zh nW
 have BR:=aB.later (aB.at2 _ _ _ _ _) hc1;have bJ:=BR.cell;have bI:=BR.free;have gu:=BR.lt
 have B1:=aB.later (aB.alloc (aB.mg _ _ _ _) _) hc1;have cB1:=B1.cell;have mE:=B1.free;have lB1:=B1.lt
 go_wp2_with fail
 refine (HS.out _).mono ?_
 rintro e v2 ⟨v,rfl,hc2,hv⟩
 obtain ⟨yh,Pv,yJ,yg,Pq,yI,rfl,Hq,qM⟩:=hv;replace Hq:=zh Hq;replace qM:=zh qM
 replace Hp:=zh (aM.carry Hp.out aH hc2)
 replace nW:=zh (aM.carry nW.out aH hc2)
 replace X1:aB _ (v1.heap.size) _ _:=aB.later aL hc2;(try simp only [List.setIfInBounds_toArray,List.set_cons_zero,List.set_cons_succ] at X1);replace dW:=X1.cell;replace fG:=X1.free;replace dU:=X1.lt
 replace BR:aB _ (w.heap.size+1+1) _ _:=aB.later aL hc2;(try simp only [List.setIfInBounds_toArray,List.set_cons_zero,List.set_cons_succ] at BR);replace bJ:=BR.cell;replace bI:=BR.free;replace gu:=BR.lt
 go_wp2_with fail
 refine (iq _ q.num.natAbs _ aH).mono ?_
 rintro e v5 ⟨rfl,rfl⟩
 rw [HZ.out]
 go_wp2_with fail
 refine aC [(.read,0),(.read,1),(.ext,2),(.ext,3),(.ext,4),(.pure,5),(.pure,6),(.fin,7),(.fin,8)] zk zk zR zP ?_
 repeat (first|(refine ah rfl rfl fun J h=>?_;go_simp;refine h _ ?_;clear h J)|(refine au rfl rfl rfl rfl fun J h=>?_;go_simp;refine h _ ?_;clear h J;try go_simp))
 refine aD rfl rfl (fun w3 hb3 J hJ=>?_);go_simp
 replace Hp:=zh (aM.carry Hp.out aH hb3)
 replace nW:=zh (aM.carry nW.out aH hb3)
 replace BR:aB _ (w.heap.size+1+1) _ _:=aB.later aL hb3;(try simp only [List.setIfInBounds_toArray,List.set_cons_zero,List.set_cons_succ] at BR);replace bJ:=BR.cell;replace bI:=BR.free;replace gu:=BR.lt
 refine ((Ld _ q _ (eF.of aH aH) HQ0.out).mono (by rw [Ei.out];exact fun _ _ h=>h)).mono ?_
 rintro e v3 ⟨v,rfl,hc3,hv⟩
 obtain ⟨aC3,lHv,aH8,aP9,mHv,aW0,rfl,Hv,Hvd⟩:=hv;replace Hv:=zh Hv;replace Hvd:=zh Hvd
 replace Hp:=zh (aM.later Hp.out hc3)
 replace nW:=zh (aM.later nW.out hc3)
 replace BR:=aB.later (BR) hc3;replace bJ:=BR.cell;replace bI:=BR.free;replace gu:=BR.lt
 refine hJ _ _ hc3 ?_
 clear hJ J
 refine aD rfl rfl (fun w4 hb4 J hJ=>?_);go_simp
 replace Hp:=zh (aM.later Hp.out hb4)
 replace nW:=zh (aM.later nW.out hb4)
 replace Hv:=zh (aM.later Hv.out hb4)
 replace Hvd:=zh (aM.later Hvd.out hb4)
 replace BR:=aB.later (BR) hb4;replace bJ:=BR.cell;replace bI:=BR.free;replace gu:=BR.lt
 refine ((RZ _ _ p i _ (eF.of aH aH) (eF.of aH aH) KP.out KI.out).mono (by rw [Er.out];exact fun _ _ h=>h)).mono ?_
 rintro e v4 ⟨v,rfl,hc4,hv⟩
 obtain ⟨Ip,XK,Jw,KF,Zp,LY,rfl,Hr,yP⟩:=hv;replace Hr:=zh Hr;replace yP:=zh yP
 replace Hp:=zh (aM.later Hp.out hc4)
 replace nW:=zh (aM.later nW.out hc4)
 replace Hv:=zh (aM.later Hv.out hc4)
 replace Hvd:=zh (aM.later Hvd.out hc4)
 replace BR:=aB.later (BR) hc4;replace bJ:=BR.cell;replace bI:=BR.free;replace gu:=BR.lt
 refine hJ _ _ hc4 ?_
 clear hJ J
 refine aD rfl rfl (fun w5 hb5 J hJ=>?_);go_simp
 replace Hr:=zh (aM.later Hr.out hb5)
 replace yP:=zh (aM.later yP.out hb5)
 replace BR:=aB.later (BR) hb5;replace bJ:=BR.cell;replace bI:=BR.free;replace gu:=BR.lt
 refine ((jO _ r _ (eF.of aH aH) KR.out (HT.out.later aA)).mono (by rw [Ex.out,kK];exact fun _ _ h=>h)).mono ?_
 rintro e v5 ⟨rfl,kZ⟩
 replace Hr:=zh (aM.later Hr.out kZ)
 replace yP:=zh (aM.later yP.out kZ)
 replace BR:=aB.later (BR) kZ;replace bJ:=BR.cell;replace bI:=BR.free;replace gu:=BR.lt
 refine hJ _ _ kZ ?_
 clear hJ J
 repeat (first|(refine ah rfl rfl fun J h=>?_;go_simp;refine h _ ?_;clear h J)|(refine au rfl rfl rfl rfl fun J h=>?_;go_simp;refine h _ ?_;clear h J;try go_simp))
 refine aJ [_,_] rfl (fun w9 gQ=>?_)
 replace BR:=aB.later (BR) gQ;replace bJ:=BR.cell;replace bI:=BR.free;replace gu:=BR.lt
 go_wp2_with fail
 refine aP rfl rfl aL Tryz.underlying36 rfl zk ?_
 exact ⟨rfl,aA⟩
theorem Ct (a b:Fr) (w:World) (ht:pR.Pow w) :
  Calls Tryz.prog 87 #[a.v,b.v] w (fun e w'=>e= .returned (Fr.res (zN a b))∧Below w.heap.size w w'):=by
 obtain ⟨s,t⟩:=a
 obtain ⟨s',t'⟩:=b
 show Calls _ _ #[.agg #[.string s,.string t],.agg #[.string s',.string t']] _ _
 unfold zN
 by_cases hbad:rd ⟨s,t⟩=none∨rd ⟨s',t'⟩=none
 ·have e:∀ f,bin f ⟨s,t⟩ ⟨s',t'⟩=(Fr.no,20):=fun f=>by
   rcases hbad with h|h
   ·exact pI h
   ·exact pG h
  rw [e]
  exact WJ s t s' t' w hbad
 ·obtain ⟨p,hp⟩:∃ p,rd ⟨s,t⟩=some p:=Option.ne_none_iff_exists'.1 (fun e=>hbad (.inl e))
  obtain ⟨q,hq⟩:∃ q,rd ⟨s',t'⟩=some q:=Option.ne_none_iff_exists'.1 (fun e=>hbad (.inr e))
  rw [iL hp hq]
  by_cases h0:q=0
  ·rw [if_pos h0]
   subst h0
   exact div_zero s t s' t' w p hp hq
  ·rw [if_neg h0]
   exact TP s t s' t' w p q hp hq h0 ht
theorem Xg (n d:Int) (hl1:(Lib.decDigits n.natAbs).length≤600) (hl2:(Lib.decDigits d.natAbs).length≤600) (w:World) (ht:pR.Pow w) :
  Calls Tryz.prog 118 #[.string ⟨(Lib.itoa n).toArray⟩,.string ⟨(Lib.itoa d).toArray⟩] w (fun e w'=>e= .returned (Fr.res (zY n d))∧Below w.heap.size w w'):=by
 have HC:=zh (jH (s:=⟨(Lib.itoa n).toArray⟩) (dX hl1))
 have HD:=zh (jH (s:=⟨(Lib.itoa d).toArray⟩) (dX hl2))
 have U5:=zh hl1
 have HL2:=zh hl2
 have S1:=vN (fE.2 hl1)
 have S2:=vN (fE.2 hl2)
 have HT:=zh ht
 clear ht hl1 hl2
 by_cases h0:d=0
 ·have e:Fr.res (zY n d)= .tuple #[.agg #[.string ⟨#[]⟩,.string ⟨#[]⟩],.int .i64 7]:=by unfold zY;rw [if_pos h0];rfl
  rw [e]
  have hz:decide (d.natAbs=0)=true:=by simp;omega
  have HZ:=zh hz
  clear e h0 hz S1 S2
  go_enter Tryz.func118,Tryz.ntmps118
  go_wp2_with fail
  refine (HC.out _).mono ?_
  rintro e v1 ⟨rfl,hc1⟩
  have BR:=aB.later (aB.new _ _ _) hc1;have bJ:=BR.cell;have bI:=BR.free;have gu:=BR.lt
  go_wp2_with fail
  refine (HD.out _).mono ?_
  rintro e v2 ⟨rfl,hc2⟩
  replace BR:=aB.later (BR) hc2;replace bJ:=BR.cell;replace bI:=BR.free;replace gu:=BR.lt
  go_wp2_with fail
  refine (fM n U5.out _).mono ?_
  rintro e v3 ⟨v,rfl,hc3,hv⟩
  obtain ⟨KO,Zx,LZ,rfl,HN⟩:=hv;replace HN:=zh HN
  replace BR:=aB.later (BR) hc3;replace bJ:=BR.cell;replace bI:=BR.free;replace gu:=BR.lt
  go_wp2_with fail
  refine (fM d HL2.out _).mono ?_
  rintro e v4 ⟨v,rfl,hc4,hv⟩
  obtain ⟨Ph,lHM,Qe,rfl,HM⟩:=hv;replace HM:=zh HM
  replace BR:=aB.later (BR) hc4;replace bJ:=BR.cell;replace bI:=BR.free;replace gu:=BR.lt
  go_wp2_with fail
  refine (iq _ d.natAbs _ aH).mono ?_
  rintro e v5 ⟨rfl,rfl⟩
  rw [HZ.out]
  go_wp2_with fail
  refine aP rfl rfl aL Tryz.underlying36 rfl zk ?_
  exact ⟨rfl,aA⟩
 ·have e:zY n d=wr (mkRat (je n.natAbs (!(decide (n<0) == decide (d<0)))) d.natAbs):=by unfold zY;rw [if_neg h0,Nh n d h0]
  rw [e]
  have hz:decide (d.natAbs=0)=false:=by simp;omega
  have HZ:=zh hz
  have hdp:0<d.natAbs:=by omega
  have HDP:=zh hdp
  obtain ⟨f,Ef⟩:∃ y:Bool,Hid (Bool.not (decide (n<0) == decide (d<0))=y):=⟨_,zh rfl⟩
  obtain ⟨s,Es⟩:∃ y:Int,Hid (je n.natAbs f=y):=⟨_,zh rfl⟩
  rw [Ef.out,Es.out]
  have hs:sz 1000000000 s.natAbs≤67:=by rw [← Es.out,jw];exact S1
  have KS:=zh (Nat.le_trans hs (show 67≤549755813888 by omega))
  have KD:=zh (Nat.le_trans S2 (show 67≤549755813888 by omega))
  have KQ:Hid (eP 1000000 (mkRat s d.natAbs)):=by
   have hp:=wN s hdp
   refine zh ⟨?_,?_⟩
   ·rw [hp.1,jw]
    exact Nat.le_trans gF zo
   ·rw [hp.2]
    exact Nat.le_trans gF zo
  obtain ⟨q,Eq⟩:∃ y:Rat,Hid (mkRat s d.natAbs=y):=⟨_,zh rfl⟩
  rw [Eq.out] at KQ ⊢
  obtain ⟨x,Ex⟩:∃ y:FrI,Hid (wr q=y):=⟨_,zh rfl⟩
  rw [Ex.out]
  clear e
  obtain ⟨⟨s1,t1⟩,e⟩:=x
  rw [kK]
  clear h0 hz hdp hs S1 S2
  go_enter Tryz.func118,Tryz.ntmps118
  go_wp2_with fail
  refine (HC.out _).mono ?_
  rintro e v1 ⟨rfl,hc1⟩
  have BR:=aB.later (aB.new _ _ _) hc1;have bJ:=BR.cell;have bI:=BR.free;have gu:=BR.lt
  go_wp2_with fail
  refine (HD.out _).mono ?_
  rintro e v2 ⟨rfl,hc2⟩
  replace BR:=aB.later (BR) hc2;replace bJ:=BR.cell;replace bI:=BR.free;replace gu:=BR.lt
  go_wp2_with fail
  refine (fM n U5.out _).mono ?_
  rintro e v3 ⟨v,rfl,hc3,hv⟩
  obtain ⟨KO,Zx,LZ,rfl,HN⟩:=hv;replace HN:=zh HN
  replace BR:=aB.later (BR) hc3;replace bJ:=BR.cell;replace bI:=BR.free;replace gu:=BR.lt
  go_wp2_with fail
  refine (fM d HL2.out _).mono ?_
  rintro e v4 ⟨v,rfl,hc4,hv⟩
  obtain ⟨Ph,lHM,Qe,rfl,HM⟩:=hv;replace HM:=zh HM
  replace HN:=zh (aM.later HN.out hc4)
  replace BR:=aB.later (BR) hc4;replace bJ:=BR.cell;replace bI:=BR.free;replace gu:=BR.lt
  go_wp2_with fail
  refine (iq _ d.natAbs _ aH).mono ?_
  rintro e v5 ⟨rfl,rfl⟩
  rw [HZ.out]
  go_wp2_with fail
  refine aC [(.pure,0),(.read,1),(.pure,2),(.read,3),(.pure,4),(.read,5),(.pure,6),(.pure,8),(.read,9),(.ext,7),(.ext,10),(.ext,11),(.pure,12),(.pure,13),(.fin,14),(.fin,15)] zk zk zR zP ?_
  repeat (first|(refine ah rfl rfl fun J h=>?_;go_simp;refine h _ ?_;clear h J)|(refine au rfl rfl rfl rfl fun J h=>?_;go_simp;refine h _ ?_;clear h J;try go_simp))
  refine aD rfl rfl (fun w6 hb6 J hJ=>?_);go_simp
  replace HM:=zh (aM.carry HM.out aH hb6)
  replace BR:aB _ (w.heap.size) _ _:=aB.later aL hb6;(try simp only [List.setIfInBounds_toArray,List.set_cons_zero,List.set_cons_succ] at BR);replace bJ:=BR.cell;replace bI:=BR.free;replace gu:=BR.lt
  refine ((eH _ n.natAbs _ _ aH).mono (by rw [show (Bool.not (decide (n<0) == decide (d<0)))=f from Ef.out,Es.out];exact fun _ _ h=>h)).mono ?_
  rintro e v6 ⟨v,rfl,hc6,hv⟩
  obtain ⟨Pg,lHs,Qd,rfl,Hs⟩:=hv;replace Hs:=zh Hs
  replace HM:=zh (aM.later HM.out hc6)
  replace BR:=aB.later (BR) hc6;replace bJ:=BR.cell;replace bI:=BR.free;replace gu:=BR.lt
  refine hJ _ _ hc6 ?_
  clear hJ J
  refine aD rfl rfl (fun w7 dY J hJ=>?_);go_simp
  replace HM:=zh (aM.later HM.out dY)
  replace Hs:=zh (aM.later Hs.out dY)
  replace BR:=aB.later (BR) dY;replace bJ:=BR.cell;replace bI:=BR.free;replace gu:=BR.lt
  refine ((Kv _ _ s d.natAbs _ (aZ.aW aH) aH HDP.out KS.out KD.out).mono (by rw [Eq.out];exact fun _ _ h=>h)).mono ?_
  rintro e v7 ⟨v,rfl,Cy,hv⟩
  obtain ⟨yh,Pv,yJ,yg,Pq,yI,rfl,Hq,qM⟩:=hv;replace Hq:=zh Hq;replace qM:=zh qM
  replace HM:=zh (aM.later HM.out Cy)
  replace Hs:=zh (aM.later Hs.out Cy)
  replace BR:=aB.later (BR) Cy;replace bJ:=BR.cell;replace bI:=BR.free;replace gu:=BR.lt
  refine hJ _ _ Cy ?_
  clear hJ J
  refine aD rfl rfl (fun w8 kE J hJ=>?_);go_simp
  replace BR:=aB.later (BR) kE;replace bJ:=BR.cell;replace bI:=BR.free;replace gu:=BR.lt
  refine ((jO _ q _ (eF.of aH aH) KQ.out (HT.out.later aA)).mono (by rw [Ex.out,kK];exact fun _ _ h=>h)).mono ?_
  rintro e v8 ⟨rfl,hc8⟩
  replace BR:=aB.later (BR) hc8;replace bJ:=BR.cell;replace bI:=BR.free;replace gu:=BR.lt
  refine hJ _ _ hc8 ?_
  clear hJ J
  repeat (first|(refine ah rfl rfl fun J h=>?_;go_simp;refine h _ ?_;clear h J)|(refine au rfl rfl rfl rfl fun J h=>?_;go_simp;refine h _ ?_;clear h J;try go_simp))
  refine aJ [_,_] rfl (fun w9 gQ=>?_)
  replace BR:=aB.later (BR) gQ;replace bJ:=BR.cell;replace bI:=BR.free;replace gu:=BR.lt
  go_wp2_with fail
  refine aP rfl rfl aL Tryz.underlying36 rfl zk ?_
  exact ⟨rfl,aA⟩
theorem Nz (z:Int) (h0: -9223372036854775808≤z) (h1:z≤9223372036854775807):(Lib.decDigits z.natAbs).length≤600 :=
 Nat.le_trans (j5 19 z.natAbs zo zo) zo
theorem vC (n d:Int) (n0: -9223372036854775808≤n) (n1:n≤9223372036854775807) (d0: -9223372036854775808≤d) (d1:d≤9223372036854775807) (w:World) (ht:pR.Pow w) :
  Calls Tryz.prog 56 #[.int .i64 n,.int .i64 d] w (fun e w'=>e= .returned (Fr.res (zY n d))∧Below w.heap.size w w'):=by
 have H1:=zh (fun w ht=>whole.A9 n n0 n1 w ht)
 have H2:=zh (fun w ht=>whole.A9 d d0 d1 w ht)
 have H3:=zh (fun w ht=>Xg n d (Nz n n0 n1) (Nz d d0 d1) w ht)
 have HT:=zh ht
 clear ht n0 n1 d0 d1
 obtain ⟨x,Ex⟩:∃ y:FrI,Hid (zY n d=y):=⟨_,zh rfl⟩
 rw [Ex.out]
 obtain ⟨⟨s1,t1⟩,e⟩:=x
 rw [kK]
 go_enter Tryz.func56,Tryz.ntmps56
 go_wp2_with fail
 refine ((H1.out _ (HT.out.later aA)).mono (fun _ _ h=>by unfold sO at h;exact h)).mono ?_
 rintro e v1 ⟨rfl,hc1⟩
 have BR:=aB.later (aB.new _ _ _) hc1;have bJ:=BR.cell;have bI:=BR.free;have gu:=BR.lt
 go_wp2_with fail
 refine ((H2.out _ (HT.out.later aA)).mono (fun _ _ h=>by unfold sO at h;exact h)).mono ?_
 rintro e v2 ⟨rfl,hc2⟩
 replace BR:=aB.later (BR) hc2;replace bJ:=BR.cell;replace bI:=BR.free;replace gu:=BR.lt
 go_wp2_with fail
 refine ((H3.out _ (HT.out.later aA)).mono (by rw [Ex.out,kK];exact fun _ _ h=>h)).mono ?_
 rintro e v3 ⟨rfl,hc3⟩
 replace BR:=aB.later (BR) hc3;replace bJ:=BR.cell;replace bI:=BR.free;replace gu:=BR.lt
 go_wp2_with fail
 refine aP rfl rfl aL Tryz.underlying36 rfl zk ?_
 exact ⟨rfl,aA⟩
end Go.Proofs.dJ
