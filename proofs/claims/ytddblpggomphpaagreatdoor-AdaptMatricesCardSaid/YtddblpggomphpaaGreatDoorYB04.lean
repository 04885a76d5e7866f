/- Lemmas for the proof. No condition. -/
import Derived.Test.YtddblpggomphpaaGreatDoorYB01
import Derived.Test.YtddblpggomphpaaGreatDoorYB02
import Derived.Test.YtddblpggomphpaaGreatDoorYB03
set_option linter.unusedVariables false
set_option linter.unusedSimpArgs false
set_option maxRecDepth 100000
set_option maxHeartbeats 16000000
namespace Go.Proofs.dG
open Go Go.RowKit Go.SW Go.Num Go.Mem Go.Proofs Go.Dec Go.dx
theorem wB (v:Value) (z:Int) (w:World) (h:aX w v z) :
  Calls Tryz.prog 138 #[v] w (fun e w'=>e= .returned (.int .i64 (uK z))∧Below w.heap.size w w'):=by
 obtain ⟨Ib,lH,Jk,rfl,H⟩:=h;replace H:=zh H
 rcases Int.lt_trichotomy z 0 with hz|hz|hz
 ·have e:uK z= -1:=by unfold uK;rw [if_neg zo,if_pos hz]
  rw [e,decide_eq_true hz]
  have h0:decide (z.natAbs=0)=false:=by simp;omega
  go_enter Tryz.func138,Tryz.ntmps138
  go_wp2_with (go_at_call 141;refine (gP _ z.natAbs _ aG).mono ?_;rintro e w1 ⟨rfl,rfl⟩;rw [h0])
  go_ret
  exact ⟨rfl,aA⟩
 ·subst hz
  go_enter Tryz.func138,Tryz.ntmps138
  go_wp2_with (go_at_call 141;refine (gP _ (Int.natAbs 0) _ aG).mono ?_;rintro e w1 ⟨rfl,rfl⟩)
  go_ret
  exact ⟨rfl,aA⟩
 ·have e:uK z=1:=by unfold uK;rw [if_neg zo,if_neg zo]
  rw [e,decide_eq_false (show ¬ z<0 by omega)]
  have h0:decide (z.natAbs=0)=false:=by simp;omega
  go_enter Tryz.func138,Tryz.ntmps138
  go_wp2_with (go_at_call 141;refine (gP _ z.natAbs _ aG).mono ?_;rintro e w1 ⟨rfl,rfl⟩;rw [h0])
  go_ret
  exact ⟨rfl,aA⟩
theorem Kv (v:Value) (q:Rat) (w:World) (h:dU w v q) :
  Calls Tryz.prog 195 #[v] w (fun e w'=>∃ v,e= .returned v∧Below w.heap.size w w'∧dU w' v (-q)):=by
 obtain ⟨Ib,lH,Jk,YR,mH,cbH,rfl,H,Hd⟩:=h;replace H:=zh H;replace Hd:=zh Hd
 go_enter Tryz.func195,Tryz.ntmps195
 go_wp2_with fail
 refine aC [(.pure,0),(.read,1),(.pure,3),(.read,4),(.ext,2),(.pure,5),(.fin,6)] zk zk zR zP ?_
 repeat (first|(refine ah rfl rfl fun J h=>?_;go_simp;refine h _ ?_;clear h J)|(refine aB rfl rfl rfl rfl fun J h=>?_;go_simp;refine h _ ?_;clear h J;try go_simp))
 refine aD rfl rfl (fun w1 hb1 J hJ=>?_);go_simp
 have BR:=au.later (au.drew (au.fZ _ _ _ _)) hb1;have bq:=BR.cell;have bg:=BR.free
 refine (oO _ q.num _ (aX.aV aG)).mono ?_
 rintro e v1 ⟨v,rfl,hc1,hv⟩
 obtain ⟨Vh,lHS,WB,rfl,HS⟩:=hv;replace HS:=zh HS
 replace BR:=au.later (BR) hc1;replace bq:=BR.cell;replace bg:=BR.free
 refine hJ _ _ hc1 ?_
 clear hJ J
 repeat (first|(refine ah rfl rfl fun J h=>?_;go_simp;refine h _ ?_;clear h J)|(refine aB rfl rfl rfl rfl fun J h=>?_;go_simp;refine h _ ?_;clear h J;try go_simp))
 refine aI [_] rfl (fun w5 hb5=>?_)
 replace BR:=au.later (BR) hb5;replace bq:=BR.cell;replace bg:=BR.free
 go_wp2_with fail
 refine bO rfl rfl aJ Tryz.underlying125 rfl zk ?_
 exact ⟨_,rfl,aA,dU.mk (-q.num).natAbs q.den aG aG rfl rfl (by simp [Rat.neg_num])⟩
theorem KE (v:Value) (q:Rat) (w:World) (h:dU w v q) (hq:q≠0) :
  Calls Tryz.prog 143 #[v] w (fun e w'=>∃ v,e= .returned v∧Below w.heap.size w w'∧dU w' v q⁻¹):=by
 obtain ⟨Ib,lH,Jk,YR,mH,cbH,rfl,H,Hd⟩:=h;replace H:=zh H;replace Hd:=zh Hd
 have HE:=zh (O6 hq)
 clear hq
 go_enter Tryz.func143,Tryz.ntmps143
 go_wp2_with fail
 refine aC [(.pure,0),(.read,1),(.pure,2),(.pure,3),(.read,4),(.pure,6),(.pure,7),(.read,8),(.ext,5),(.pure,9),(.fin,10)] zk zk zR zP ?_
 repeat (first|(refine ah rfl rfl fun J h=>?_;go_simp;refine h _ ?_;clear h J)|(refine aB rfl rfl rfl rfl fun J h=>?_;go_simp;refine h _ ?_;clear h J;try go_simp))
 refine aD rfl rfl (fun w1 hb1 J hJ=>?_);go_simp
 have BR:=au.later (au.drew (au.fZ _ _ _ _)) hb1;have bq:=BR.cell;have bg:=BR.free
 refine (dV _ q.den _ _ aG).mono ?_
 rintro e v1 ⟨v,rfl,hc1,hv⟩
 obtain ⟨Vh,lHS,WB,rfl,HS⟩:=hv;replace HS:=zh HS
 replace BR:=au.later (BR) hc1;replace bq:=BR.cell;replace bg:=BR.free
 refine hJ _ _ hc1 ?_
 clear hJ J
 repeat (first|(refine ah rfl rfl fun J h=>?_;go_simp;refine h _ ?_;clear h J)|(refine aB rfl rfl rfl rfl fun J h=>?_;go_simp;refine h _ ?_;clear h J;try go_simp))
 refine aI [_] rfl (fun w5 hb5=>?_)
 replace BR:=au.later (BR) hb5;replace bq:=BR.cell;replace bg:=BR.free
 go_wp2_with fail
 refine bO rfl rfl aJ Tryz.underlying125 rfl zk ?_
 exact ⟨_,rfl,aA,dU.mk (jg q.den (decide (q.num<0))).natAbs q.num.natAbs aG aG (by rw [HE.out.1]) HE.out.2.symm (by rw [HE.out.1])⟩
theorem sI (x y:Value) (p q:Rat) (w:World) (hx:dU w x p) (hy:dU w y q) (kp:dZ 1000000 p) (kq:dZ 1000000 q) :
  Calls Tryz.prog 76 #[x,y] w (fun e w'=>e= .returned (.int .i64 (gV p q))∧Below w.heap.size w w'):=by
 obtain ⟨Ib,lH,Jk,YR,mH,cbH,rfl,H,Hd⟩:=hx;replace H:=zh H;replace Hd:=zh Hd
 obtain ⟨JH,lG,JL,pbG,mG,cbG,rfl,G,Gd⟩:=hy;replace G:=zh G;replace Gd:=zh Gd
 rw [← Aq]
 have k1:=j5 p.num q.den
 have k2:=j5 q.num p.den
 obtain ⟨kp1,kp2⟩:=kp
 obtain ⟨kq1,kq2⟩:=kq
 obtain ⟨y1,Ey1⟩:∃ y:Int,Hid (p.num*(q.den:Int)=y):=⟨_,zh rfl⟩
 obtain ⟨y2,Ey2⟩:∃ y:Int,Hid (q.num*(p.den:Int)=y):=⟨_,zh rfl⟩
 obtain ⟨y3,Ey3⟩:∃ y:Int,Hid (-y2=y):=⟨_,zh rfl⟩
 obtain ⟨y4,Ey4⟩:∃ y:Int,Hid (y1+y3=y):=⟨_,zh rfl⟩
 rw [Ey1.out,Ey2.out,Ey3.out,Ey4.out]
 rw [Ey1.out] at k1
 rw [Ey2.out] at k2
 have k3:sz 1000000000 y3.natAbs=sz 1000000000 y2.natAbs:=by rw [← Ey3.out,Int.natAbs_neg]
 have K1:Hid (sz 1000000000 y1.natAbs≤549755813888):=by unfold Hid;omega
 have K3:Hid (sz 1000000000 y3.natAbs≤549755813888):=by unfold Hid;omega
 have KP1:=zh kp1
 have KP2:=zh kp2
 have KQ1:=zh kq1
 have KQ2:=zh kq2
 clear kp1 kp2 kq1 kq2 k1 k2 k3
 go_enter Tryz.func76,Tryz.ntmps76
 go_wp2_with fail
 refine aC [(.pure,0),(.read,1),(.pure,2),(.read,3),(.pure,5),(.read,6),(.pure,7),(.read,8),(.ext,4),(.ext,9),(.ext,10),(.ext,11),(.ext,12),(.fin,13)] zk zk zR zP ?_
 repeat (first|(refine ah rfl rfl fun J h=>?_;go_simp;refine h _ ?_;clear h J)|(refine aB rfl rfl rfl rfl fun J h=>?_;go_simp;refine h _ ?_;clear h J;try go_simp))
 refine aD rfl rfl (fun w1 hb1 J hJ=>?_);go_simp
 refine ((lg _ _ p.num q.den _ (aX.aV aG) aG (Nat.le_trans KP1.out zo) (Nat.le_trans KQ2.out zo)).mono (by rw [Ey1.out];exact fun _ _ h=>h)).mono ?_
 rintro e v1 ⟨v,rfl,hc1,hv⟩
 obtain ⟨aR3,lHA,aX8,rfl,HA⟩:=hv;replace HA:=zh HA
 refine hJ _ _ hc1 ?_
 clear hJ J
 refine aD rfl rfl (fun w2 hb2 J hJ=>?_);go_simp
 refine ((lg _ _ q.num p.den _ (aX.aV aG) aG (Nat.le_trans KQ1.out zo) (Nat.le_trans KP2.out zo)).mono (by rw [Ey2.out];exact fun _ _ h=>h)).mono ?_
 rintro e v2 ⟨v,rfl,hc2,hv⟩
 obtain ⟨aR2,lHB,aX7,rfl,HB⟩:=hv;replace HB:=zh HB
 refine hJ _ _ hc2 ?_
 clear hJ J
 refine aD rfl rfl (fun w3 hb3 J hJ=>?_);go_simp
 refine ((oO _ y2 _ (aX.aV aG)).mono (by rw [Ey3.out];exact fun _ _ h=>h)).mono ?_
 rintro e v3 ⟨v,rfl,hc3,hv⟩
 obtain ⟨aC3,lHC,aH7,rfl,HC⟩:=hv;replace HC:=zh HC
 refine hJ _ _ hc3 ?_
 clear hJ J
 refine aD rfl rfl (fun w4 hb4 J hJ=>?_);go_simp
 refine ((vC _ _ y1 y3 _ (aX.aV aG) (aX.aV aG) K1.out K3.out).mono (by rw [Ey4.out];exact fun _ _ h=>h)).mono ?_
 rintro e v4 ⟨v,rfl,hc4,hv⟩
 obtain ⟨OJ,lHD,PO,rfl,HD⟩:=hv;replace HD:=zh HD
 refine hJ _ _ hc4 ?_
 clear hJ J
 refine aD rfl rfl (fun w5 hb5 J hJ=>?_);go_simp
 refine (wB _ y4 _ (aX.aV aG)).mono ?_
 rintro e v5 ⟨rfl,kP⟩
 refine hJ _ _ kP ?_
 clear hJ J
 refine aI [_] rfl (fun w5 hb5=>?_)
 go_wp2_with fail
 go_ret
 exact ⟨rfl,aA⟩
theorem J2 (x y:Value) (n:Int) (d:Nat) (w:World) (hx:aX w x n) (hy:aM w y d) (hd:0<d) (kn:sz 1000000000 n.natAbs≤549755813888) (kd:sz 1000000000 d≤549755813888) :
  Calls Tryz.prog 169 #[x,y] w (fun e w'=>∃ v,e= .returned v∧Below w.heap.size w w'∧dU w' v (mkRat n d)):=by
 obtain ⟨Ib,lH,Jk,rfl,H⟩:=hx;replace H:=zh H
 obtain ⟨JH,lG,JL,rfl⟩:=hy.slice;have G:=zh hy;clear hy
 have HP:=zh (wG n hd)
 have hg:0<n.natAbs.gcd d:=Nat.gcd_pos_of_pos_right _ hd
 obtain ⟨g,Eg⟩:∃ y:Nat,Hid (n.natAbs.gcd d=y):=⟨_,zh rfl⟩
 obtain ⟨a,Ea⟩:∃ y:Nat,Hid (n.natAbs / g=y):=⟨_,zh rfl⟩
 obtain ⟨b,Eb⟩:∃ y:Nat,Hid (d / g=y):=⟨_,zh rfl⟩
 rw [Eg.out] at HP hg
 rw [Ea.out,Eb.out] at HP
 have KN:=zh kn
 have KD:=zh kd
 have HG:=zh hg
 clear kn kd hg hd
 go_enter Tryz.func169,Tryz.ntmps169
 go_wp2_with fail
 refine ((mW _ _ n.natAbs d _ aG aG KN.out KD.out).mono (by rw [Eg.out];exact fun _ _ h=>h)).mono ?_
 rintro e v1 ⟨v,rfl,hc1,hv⟩
 obtain ⟨Q8,lHg,TJ,rfl⟩:=hv.slice;have Hg:=zh hv;clear hv
 have BR:=au.later (au.fZ _ _ _ _) hc1;have bq:=BR.cell;have bg:=BR.free
 have B0:=au.later (au.alloc (au.new _ _ _) _) hc1;have cB0:=B0.cell;have jZ:=B0.free
 go_wp2_with fail
 refine ((dw _ _ n.natAbs g _ aG aG HG.out KN.out).mono (by rw [Ea.out];exact fun _ _ h=>h)).mono ?_
 rintro e v2 ⟨v,vr,rfl,hc2,hv,jh⟩
 obtain ⟨aQ7,lHa,aX2,rfl⟩:=hv.slice;have Ha:=zh hv;clear hv;obtain ⟨aJ5,aS9,aL3,rfl⟩:=jh.slice;have Har:=zh jh;clear jh
 replace BR:=au.later (BR) hc2;replace bq:=BR.cell;replace bg:=BR.free
 replace B0:=au.later (B0) hc2;replace cB0:=B0.cell;replace jZ:=B0.free
 go_wp2_with fail
 refine ((dw _ _ d g _ aG aG HG.out KD.out).mono (by rw [Eb.out];exact fun _ _ h=>h)).mono ?_
 rintro e v3 ⟨v,vr,rfl,hc3,hv,jh⟩
 obtain ⟨YU,lHb,af0,rfl⟩:=hv.slice;have Hb:=zh hv;clear hv;obtain ⟨Rb,Zk,TK,rfl⟩:=jh.slice;have Hbr:=zh jh;clear jh
 replace BR:=au.later (BR) hc3;replace bq:=BR.cell;replace bg:=BR.free
 replace B0:=au.later (B0) hc3;replace cB0:=B0.cell;replace jZ:=B0.free
 go_wp2_with fail
 refine (dV _ a _ _ aG).mono ?_
 rintro e v4 ⟨v,rfl,hc4,hv⟩
 obtain ⟨OH,lHs,PK,rfl,Hs⟩:=hv;replace Hs:=zh Hs
 replace BR:=au.later (BR) hc4;replace bq:=BR.cell;replace bg:=BR.free
 replace B0:=au.later (B0) hc4;replace cB0:=B0.cell;replace jZ:=B0.free
 go_wp2_with fail
 refine bO rfl rfl aJ Tryz.underlying125 rfl zk ?_
 exact ⟨_,rfl,aA,dU.mk (jg a (decide (n<0))).natAbs b aG aG (by rw [HP.out.1]) HP.out.2.symm (by rw [HP.out.1])⟩
theorem jO (v:Value) (q:Rat) (w:World) (h:dU w v q) (k:dZ 1000000 q) (ht:pE.Pow w) :
  Calls Tryz.prog 144 #[v] w (fun e w'=>e= .returned (Fr.res (wr q))∧Below w.heap.size w w'):=by
 obtain ⟨Ib,lH,Jk,YR,mH,cbH,rfl,H,Hd⟩:=h;replace H:=zh H;replace Hd:=zh Hd
 have HT:=zh ht
 have K1:=zh k.1
 have K2:=zh k.2
 clear ht k
 rcases Nat.lt_or_ge 600 (Lib.decDigits q.num.natAbs).length with h1|h1
 ·rw [rZ (by unfold dz;rw [Fq h1];rfl)]
  go_enter Tryz.func144,Tryz.ntmps144
  go_wp2_with fail
  refine (iL _ q.num.natAbs _ aG (Nat.le_trans K1.out zo) (HT.out.later aA)).mono ?_
  rintro e v1 ⟨rfl,hc1⟩
  have BR:=au.later (au.fZ _ _ _ _) hc1;have bq:=BR.cell;have bg:=BR.free
  have B0:=au.later (au.alloc (au.new _ _ _) _) hc1;have cB0:=B0.cell;have jZ:=B0.free
  go_wp2_with fail
  refine aP rfl rfl aJ Tryz.underlying36 rfl zk ?_
  exact ⟨rfl,aA⟩
 ·rcases Nat.lt_or_ge 600 (Lib.decDigits q.den).length with h2|h2
  ·rw [rZ (by unfold dz;rw [Fq h2,Bool.and_false])]
   go_enter Tryz.func144,Tryz.ntmps144
   go_wp2_with fail
   refine (iL _ q.num.natAbs _ aG (Nat.le_trans K1.out zo) (HT.out.later aA)).mono ?_
   rintro e v1 ⟨rfl,hc1⟩
   have BR:=au.later (au.fZ _ _ _ _) hc1;have bq:=BR.cell;have bg:=BR.free
   have B0:=au.later (au.alloc (au.new _ _ _) _) hc1;have cB0:=B0.cell;have jZ:=B0.free
   go_wp2_with fail
   refine (iL _ q.den _ aG (Nat.le_trans K2.out zo) (HT.out.later aA)).mono ?_
   rintro e v2 ⟨rfl,hc2⟩
   replace BR:=au.later (BR) hc2;replace bq:=BR.cell;replace bg:=BR.free
   replace B0:=au.later (B0) hc2;replace cB0:=B0.cell;replace jZ:=B0.free
   go_wp2_with fail
   refine aP rfl rfl aJ Tryz.underlying36 rfl zk ?_
   exact ⟨rfl,aA⟩
  ·rw [Xn (by unfold dz;rw [eX.2 h1,eX.2 h2];rfl)]
   go_enter Tryz.func144,Tryz.ntmps144
   go_wp2_with fail
   refine (iL _ q.num.natAbs _ aG (Nat.le_trans K1.out zo) (HT.out.later aA)).mono ?_
   rintro e v1 ⟨rfl,hc1⟩
   have BR:=au.later (au.fZ _ _ _ _) hc1;have bq:=BR.cell;have bg:=BR.free
   have B0:=au.later (au.alloc (au.new _ _ _) _) hc1;have cB0:=B0.cell;have jZ:=B0.free
   go_wp2_with fail
   refine (iL _ q.den _ aG (Nat.le_trans K2.out zo) (HT.out.later aA)).mono ?_
   rintro e v2 ⟨rfl,hc2⟩
   replace BR:=au.later (BR) hc2;replace bq:=BR.cell;replace bg:=BR.free
   replace B0:=au.later (B0) hc2;replace cB0:=B0.cell;replace jZ:=B0.free
   go_wp2_with fail
   refine aC [(.pure,0),(.read,1),(.pure,3),(.read,4),(.ext,2),(.ext,5),(.pure,6),(.fin,7),(.fin,8)] zk zk zR zP ?_
   repeat (first|(refine ah rfl rfl fun J h=>?_;go_simp;refine h _ ?_;clear h J)|(refine aB rfl rfl rfl rfl fun J h=>?_;go_simp;refine h _ ?_;clear h J;try go_simp))
   refine aD rfl rfl (fun w3 hb3 J hJ=>?_);go_simp
   replace BR:=au.later (au.drew BR) hb3;replace bq:=BR.cell;replace bg:=BR.free
   refine ((EK _ q.num _ (aX.aV aG) (Nat.le_trans K1.out zo) (HT.out.later aA)).mono (fun _ _ h=>by unfold sO at h;exact h)).mono ?_
   rintro e v3 ⟨rfl,hc3⟩
   replace BR:=au.later (BR) hc3;replace bq:=BR.cell;replace bg:=BR.free
   refine hJ _ _ hc3 ?_
   clear hJ J
   refine aD rfl rfl (fun w4 hb4 J hJ=>?_);go_simp
   replace BR:=au.later (BR) hb4;replace bq:=BR.cell;replace bg:=BR.free
   refine (qx _ q.den _ aG (Nat.le_trans K2.out zo) (HT.out.later aA)).mono ?_
   rintro e v4 ⟨rfl,hc4⟩
   replace BR:=au.later (BR) hc4;replace bq:=BR.cell;replace bg:=BR.free
   refine hJ _ _ hc4 ?_
   clear hJ J
   repeat (first|(refine ah rfl rfl fun J h=>?_;go_simp;refine h _ ?_;clear h J)|(refine aB rfl rfl rfl rfl fun J h=>?_;go_simp;refine h _ ?_;clear h J;try go_simp))
   refine aI [_,_] rfl (fun w5 hb5=>?_)
   replace BR:=au.later (BR) hb5;replace bq:=BR.cell;replace bg:=BR.free
   go_wp2_with fail
   refine aP rfl rfl aJ Tryz.underlying36 rfl zk ?_
   exact ⟨rfl,aA⟩
def Jz (w:World) (q:Rat) (e:Ending) (w':World):Prop:=∃ v,e= .returned (.tuple #[v,.bool true])∧Below w.heap.size w w'∧dU w' v q
def qE (w:World) (e:Ending) (w':World):Prop:=e= .returned (.tuple #[.agg #[.slice none 0 0,.bool false,.slice none 0 0],.bool false])∧Below w.heap.size w w'
theorem jG {s:ByteArray} {z:Int} (h:Dec.whole s.data.toList=some z) (w:World):Calls Tryz.prog 167 #[.string s] w (fun e w'=>e= .returned (.int .i64 0)∧Below w.heap.size w w'):=by
 have:=whole.qA s w
 rw [h] at this
 exact this
theorem Je {s:ByteArray} (h:Dec.whole s.data.toList=none) (w:World):Calls Tryz.prog 167 #[.string s] w (fun e w'=>e= .returned (.int .i64 10)∧Below w.heap.size w w'):=by
 have:=whole.qA s w
 rw [h] at this
 exact this
theorem J3 (s t:ByteArray) (h:Dec.whole s.data.toList=none) (w:World) :
  Calls Tryz.prog 134 #[.agg #[.string s,.string t]] w (qE w):=by
 have HC:=zh (Je h)
 clear h
 go_enter Tryz.func134,Tryz.ntmps134
 go_wp2_with fail
 refine (HC.out _).mono ?_
 rintro e v1 ⟨rfl,hc1⟩
 have BR:=au.later (au.fZ _ _ _ _) hc1;have bq:=BR.cell;have bg:=BR.free
 have B0:=au.later (au.alloc (au.new _ _ _) _) hc1;have cB0:=B0.cell;have jZ:=B0.free
 go_wp2_with fail
 refine aP rfl rfl aJ Tryz.underlying125 rfl zk ?_
 exact ⟨rfl,aA⟩
theorem J4 (s t:ByteArray) (n:Int) (hn:Dec.whole s.data.toList=some n) (h:Dec.whole t.data.toList=none) (w:World) :
  Calls Tryz.prog 134 #[.agg #[.string s,.string t]] w (qE w):=by
 have HC:=zh (jG hn)
 have HD:=zh (Je h)
 clear h hn
 go_enter Tryz.func134,Tryz.ntmps134
 go_wp2_with fail
 refine (HC.out _).mono ?_
 rintro e v1 ⟨rfl,hc1⟩
 have BR:=au.later (au.fZ _ _ _ _) hc1;have bq:=BR.cell;have bg:=BR.free
 have B0:=au.later (au.alloc (au.new _ _ _) _) hc1;have cB0:=B0.cell;have jZ:=B0.free
 go_wp2_with fail
 refine (HD.out _).mono ?_
 rintro e v2 ⟨rfl,hc2⟩
 replace BR:=au.later (BR) hc2;replace bq:=BR.cell;replace bg:=BR.free
 replace B0:=au.later (B0) hc2;replace cB0:=B0.cell;replace jZ:=B0.free
 go_wp2_with fail
 refine aP rfl rfl aJ Tryz.underlying125 rfl zk ?_
 exact ⟨rfl,aA⟩
theorem Ow (q:Rat) (hq:dz q=true) (w:World) :
  Calls Tryz.prog 134 #[(Fr.of q).v] w (Jz w q):=by
 show Calls _ _ #[.agg #[.string ⟨(Lib.itoa q.num).toArray⟩,.string ⟨(Lib.itoa (q.den:Int)).toArray⟩]] _ _
 have hs:=gy hq
 have hl:(Lib.decDigits q.num.natAbs).length≤600∧(Lib.decDigits ((q.den:Nat):Int).natAbs).length≤600:=by
  unfold dz at hq
  rw [Bool.and_eq_true,eX,eX] at hq
  exact ⟨hq.1,(Int.natAbs_natCast q.den).symm ▸ hq.2⟩
 obtain ⟨hl1,hl2⟩:=hl
 have hd:=q.den_pos
 have hr:=q.reduced
 have HC:=zh (jG (s:=⟨(Lib.itoa q.num).toArray⟩) (dP hl1))
 have HD:=zh (jG (s:=⟨(Lib.itoa (q.den:Int)).toArray⟩) (dP hl2))
 have UN:=zh hl1
 have HL2:=zh hl2
 have HR:=zh hr
 have S1:=zh hs.1
 have S2:=zh hs.2
 obtain ⟨d,Ed⟩:∃ y:Int,Hid ((q.den:Int)=y):=⟨_,zh rfl⟩
 have hdn:d.natAbs=q.den:=by rw [← Ed.out,Int.natAbs_natCast]
 have hd1:0<d:=by rw [← Ed.out];omega
 have hsg:uK d=1:=by unfold uK;rw [if_neg zo,if_neg zo]
 have hdf:decide (d<0)=false:=by simp;omega
 have HDN:=zh hdn
 have D8:=zh hsg
 have HDF:=zh hdf
 have HR1:Hid (q.num.natAbs.gcd d.natAbs=1):=by unfold Hid;rw [hdn];exact hr
 rw [Ed.out] at HL2 HD ⊢
 clear hq hs hl1 hl2 hr hd hdn hd1 hsg hdf
 go_enter Tryz.func134,Tryz.ntmps134
 go_wp2_with fail
 refine (HC.out _).mono ?_
 rintro e v1 ⟨rfl,hc1⟩
 have BR:=au.later (au.fZ _ _ _ _) hc1;have bq:=BR.cell;have bg:=BR.free
 have B0:=au.later (au.alloc (au.new _ _ _) _) hc1;have cB0:=B0.cell;have jZ:=B0.free
 go_wp2_with fail
 refine (HD.out _).mono ?_
 rintro e v2 ⟨rfl,hc2⟩
 replace BR:=au.later (BR) hc2;replace bq:=BR.cell;replace bg:=BR.free
 replace B0:=au.later (B0) hc2;replace cB0:=B0.cell;replace jZ:=B0.free
 go_wp2_with fail
 refine aC [(.pure,0),(.read,1),(.pure,3),(.read,4),(.ext,2),(.ext,5),(.alloc #[.slice none 0 0,.bool false] 123,6),(.alloc #[.slice none 0 0,.bool false] 123,7),(.fin,8),(.fin,9)] zk zk zR zP ?_
 repeat (first|(refine ah rfl rfl fun J h=>?_;go_simp;refine h _ ?_;clear h J)|(refine aB rfl rfl rfl rfl fun J h=>?_;go_simp;refine h _ ?_;clear h J;try go_simp))
 refine aD rfl rfl (fun w3 hb3 J hJ=>?_);go_simp
 replace BR:=au.later (au.drew BR) hb3;replace bq:=BR.cell;replace bg:=BR.free
 replace B0:=au.later (au.drew B0) hb3;replace cB0:=B0.cell;replace jZ:=B0.free
 refine (fA q.num UN.out _).mono ?_
 rintro e v3 ⟨v,rfl,hc3,hv⟩
 obtain ⟨Kh,Zm,Ls,rfl,HN⟩:=hv;replace HN:=zh HN
 replace BR:=au.later (BR) hc3;replace bq:=BR.cell;replace bg:=BR.free
 replace B0:=au.later (B0) hc3;replace cB0:=B0.cell;replace jZ:=B0.free
 refine hJ _ _ hc3 ?_
 clear hJ J
 refine aD rfl rfl (fun w4 hb4 J hJ=>?_);go_simp
 replace BR:=au.later (BR) hb4;replace bq:=BR.cell;replace bg:=BR.free
 replace B0:=au.later (B0) hb4;replace cB0:=B0.cell;replace jZ:=B0.free
 refine (fA d HL2.out _).mono ?_
 rintro e v4 ⟨v,rfl,hc4,hv⟩
 obtain ⟨OI,lHM,PN,rfl,HM⟩:=hv;replace HM:=zh HM
 replace BR:=au.later (BR) hc4;replace bq:=BR.cell;replace bg:=BR.free
 replace B0:=au.later (B0) hc4;replace cB0:=B0.cell;replace jZ:=B0.free
 refine hJ _ _ hc4 ?_
 clear hJ J
 refine aR rfl (fun b1 w5 UG Le R6 ad6 cO=>?_);go_simp;replace cO:au _ _ _ _:=cO;have ac8:w.heap.size≤b1:=(by first|omega|exact Nat.le_trans (Below.size (B:=w.heap.size) aA) Le)
 replace BR:=au.later (BR) UG;replace bq:=BR.cell;replace bg:=BR.free
 refine aR rfl (fun b2 w6 O7 SK XF SX iy=>?_);go_simp;replace iy:au _ _ _ _:=iy;have av5:w.heap.size≤b2:=(by first|omega|exact Nat.le_trans (Below.size (B:=w.heap.size) aA) SK)
 replace BR:=au.later (BR) O7;replace bq:=BR.cell;replace bg:=BR.free;replace cO:=au.later (cO) O7;replace oF:=cO.cell;replace oC:=cO.free
 refine aI [_,_] rfl (fun w7 dQ=>?_)
 replace BR:=au.later (BR) dQ;replace bq:=BR.cell;replace bg:=BR.free;replace cO:=au.later (cO) dQ;replace oF:=cO.cell;replace oC:=cO.free;replace iy:=au.later (iy) dQ;replace BG:=iy.cell;replace Br:=iy.free
 have n1:b1≠b2:=fun e=>SX (by simp [e])
 have n2:b2≠b1:=fun e=>n1 e.symm
 have n3:=BR.ne cO zd
 have n4:=BR.ne iy zd
 go_wp2_with fail
 refine ((wB _ d _ (aX.aV aG)).mono (by rw [D8.out];exact fun _ _ h=>h)).mono ?_
 rintro e v5 ⟨rfl,kP⟩
 replace HN:=zh (aM.carry HN.out aG kP)
 replace HM:=zh (aM.carry HM.out aG kP)
 replace cO:au _ (b1) _ _:=au.later aJ kP;(try simp only [List.setIfInBounds_toArray,List.set_cons_zero,List.set_cons_succ] at cO);replace oF:=cO.cell;replace oC:=cO.free
 replace iy:au _ (b2) _ _:=au.later aJ kP;(try simp only [List.setIfInBounds_toArray,List.set_cons_zero,List.set_cons_succ] at iy);replace BG:=iy.cell;replace Br:=iy.free
 replace BR:au _ (w.heap.size+1) _ _:=au.later aJ kP;(try simp only [List.setIfInBounds_toArray,List.set_cons_zero,List.set_cons_succ] at BR);replace bq:=BR.cell;replace bg:=BR.free
 go_wp2_with fail
 refine ((mW _ _ q.num.natAbs d.natAbs _ aG aG (Nat.le_trans S1.out zo) (by rw [HDN.out];exact Nat.le_trans S2.out zo)).mono (by rw [HR1.out];exact fun _ _ h=>h)).mono ?_
 rintro e v6 ⟨v,rfl,hc6,hv⟩
 obtain ⟨aC2,lHG,aH6,rfl⟩:=hv.slice;have HG:=zh hv;clear hv
 replace HN:=zh (aM.later HN.out hc6)
 replace HM:=zh (aM.later HM.out hc6)
 replace cO:=au.later (cO) hc6;replace oF:=cO.cell;replace oC:=cO.free
 replace iy:=au.later (iy) hc6;replace BG:=iy.cell;replace Br:=iy.free
 replace BR:=au.later (BR) hc6;replace bq:=BR.cell;replace bg:=BR.free
 go_wp2_with fail
 refine ((jB _ _ 1 1 _ aG (aM.lit zo zo)).mono (by rw [sF];exact fun _ _ h=>h)).mono ?_
 rintro e v7 ⟨rfl,Ci⟩
 replace HN:=zh (aM.carry HN.out aG Ci)
 replace HM:=zh (aM.carry HM.out aG Ci)
 replace cO:au _ (b1) _ _:=au.later aJ Ci;(try simp only [List.setIfInBounds_toArray,List.set_cons_zero,List.set_cons_succ] at cO);replace oF:=cO.cell;replace oC:=cO.free
 replace iy:au _ (b2) _ _:=au.later aJ Ci;(try simp only [List.setIfInBounds_toArray,List.set_cons_zero,List.set_cons_succ] at iy);replace BG:=iy.cell;replace Br:=iy.free
 replace BR:au _ (w.heap.size+1) _ _:=au.later aJ Ci;(try simp only [List.setIfInBounds_toArray,List.set_cons_zero,List.set_cons_succ] at BR);replace bq:=BR.cell;replace bg:=BR.free
 go_wp2_with fail
 refine aP rfl rfl aJ Tryz.underlying125 rfl zk ?_
 refine ⟨_,rfl,aA,dU.mk q.num.natAbs d.natAbs aG aG rfl HDN.out rfl⟩
theorem Cu (n d:Int) (hl1:(Lib.decDigits n.natAbs).length≤600) (hl2:(Lib.decDigits d.natAbs).length≤600) (hd:d≤0) (w:World) :
  Calls Tryz.prog 134 #[.agg #[.string ⟨(Lib.itoa n).toArray⟩,.string ⟨(Lib.itoa d).toArray⟩]] w (qE w):=by
 have HC:=zh (jG (s:=⟨(Lib.itoa n).toArray⟩) (dP hl1))
 have HD:=zh (jG (s:=⟨(Lib.itoa d).toArray⟩) (dP hl2))
 have UN:=zh hl1
 have HL2:=zh hl2
 have hs:uK d=0∨uK d= -1:=by
  unfold uK
  by_cases h:d=0
  ·rw [if_pos h];exact .inl rfl
  ·rw [if_neg h,if_pos zo];exact .inr rfl
 clear hl1 hl2 hd
 rcases hs with hs|hs
 all_goals
  have D8:=zh hs
  clear hs
  go_enter Tryz.func134,Tryz.ntmps134
  go_wp2_with fail
  refine (HC.out _).mono ?_
  rintro e v1 ⟨rfl,hc1⟩
  have BR:=au.later (au.fZ _ _ _ _) hc1;have bq:=BR.cell;have bg:=BR.free
  have B0:=au.later (au.alloc (au.new _ _ _) _) hc1;have cB0:=B0.cell;have jZ:=B0.free
  go_wp2_with fail
  refine (HD.out _).mono ?_
  rintro e v2 ⟨rfl,hc2⟩
  replace BR:=au.later (BR) hc2;replace bq:=BR.cell;replace bg:=BR.free
  replace B0:=au.later (B0) hc2;replace cB0:=B0.cell;replace jZ:=B0.free
  go_wp2_with fail
  refine aC [(.pure,0),(.read,1),(.pure,3),(.read,4),(.ext,2),(.ext,5),(.alloc #[.slice none 0 0,.bool false] 123,6),(.alloc #[.slice none 0 0,.bool false] 123,7),(.fin,8),(.fin,9)] zk zk zR zP ?_
  repeat (first|(refine ah rfl rfl fun J h=>?_;go_simp;refine h _ ?_;clear h J)|(refine aB rfl rfl rfl rfl fun J h=>?_;go_simp;refine h _ ?_;clear h J;try go_simp))
  refine aD rfl rfl (fun w3 hb3 J hJ=>?_);go_simp
  replace BR:=au.later (au.drew BR) hb3;replace bq:=BR.cell;replace bg:=BR.free
  replace B0:=au.later (au.drew B0) hb3;replace cB0:=B0.cell;replace jZ:=B0.free
  refine (fA n UN.out _).mono ?_
  rintro e v3 ⟨v,rfl,hc3,hv⟩
  obtain ⟨Kh,Zm,Ls,rfl,HN⟩:=hv;replace HN:=zh HN
  replace BR:=au.later (BR) hc3;replace bq:=BR.cell;replace bg:=BR.free
  replace B0:=au.later (B0) hc3;replace cB0:=B0.cell;replace jZ:=B0.free
  refine hJ _ _ hc3 ?_
  clear hJ J
  refine aD rfl rfl (fun w4 hb4 J hJ=>?_);go_simp
  replace BR:=au.later (BR) hb4;replace bq:=BR.cell;replace bg:=BR.free
  replace B0:=au.later (B0) hb4;replace cB0:=B0.cell;replace jZ:=B0.free
  refine (fA d HL2.out _).mono ?_
  rintro e v4 ⟨v,rfl,hc4,hv⟩
  obtain ⟨OI,lHM,PN,rfl,HM⟩:=hv;replace HM:=zh HM
  replace BR:=au.later (BR) hc4;replace bq:=BR.cell;replace bg:=BR.free
  replace B0:=au.later (B0) hc4;replace cB0:=B0.cell;replace jZ:=B0.free
  refine hJ _ _ hc4 ?_
  clear hJ J
  refine aR rfl (fun b1 w5 UG Le R6 ad6 cO=>?_);go_simp;replace cO:au _ _ _ _:=cO;have ac8:w.heap.size≤b1:=(by first|omega|exact Nat.le_trans (Below.size (B:=w.heap.size) aA) Le)
  replace BR:=au.later (BR) UG;replace bq:=BR.cell;replace bg:=BR.free
  refine aR rfl (fun b2 w6 O7 SK XF SX iy=>?_);go_simp;replace iy:au _ _ _ _:=iy;have av5:w.heap.size≤b2:=(by first|omega|exact Nat.le_trans (Below.size (B:=w.heap.size) aA) SK)
  replace BR:=au.later (BR) O7;replace bq:=BR.cell;replace bg:=BR.free;replace cO:=au.later (cO) O7;replace oF:=cO.cell;replace oC:=cO.free
  refine aI [_,_] rfl (fun w7 dQ=>?_)
  replace BR:=au.later (BR) dQ;replace bq:=BR.cell;replace bg:=BR.free;replace cO:=au.later (cO) dQ;replace oF:=cO.cell;replace oC:=cO.free;replace iy:=au.later (iy) dQ;replace BG:=iy.cell;replace Br:=iy.free
  have n1:b1≠b2:=fun e=>SX (by simp [e])
  have n2:b2≠b1:=fun e=>n1 e.symm
  have n3:=BR.ne cO zd
  have n4:=BR.ne iy zd
  go_wp2_with fail
  refine ((wB _ d _ (aX.aV aG)).mono (by rw [D8.out];exact fun _ _ h=>h)).mono ?_
  rintro e v5 ⟨rfl,kP⟩
  replace BR:au _ (w.heap.size+1) _ _:=au.later aJ kP;(try simp only [List.setIfInBounds_toArray,List.set_cons_zero,List.set_cons_succ] at BR);replace bq:=BR.cell;replace bg:=BR.free
  go_wp2_with fail
  refine aP rfl rfl aJ Tryz.underlying125 rfl zk ?_
  exact ⟨rfl,aA⟩
theorem JX {g:Nat} (h:g≠1):vY g 1= -1∨vY g 1=1:=by
 unfold vY
 by_cases h2:g<1
 ·rw [if_pos h2];exact .inl rfl
 ·rw [if_neg h2,if_pos zo];exact .inr rfl
theorem Fg (n d:Int) (hl1:(Lib.decDigits n.natAbs).length≤600) (hl2:(Lib.decDigits d.natAbs).length≤600) (hd:0<d) (hg:n.natAbs.gcd d.natAbs≠1) (w:World) :
  Calls Tryz.prog 134 #[.agg #[.string ⟨(Lib.itoa n).toArray⟩,.string ⟨(Lib.itoa d).toArray⟩]] w (qE w):=by
 have HC:=zh (jG (s:=⟨(Lib.itoa n).toArray⟩) (dP hl1))
 have HD:=zh (jG (s:=⟨(Lib.itoa d).toArray⟩) (dP hl2))
 have UN:=zh hl1
 have HL2:=zh hl2
 have S1:=zh (vI (eX.2 hl1))
 have S2:=zh (vI (eX.2 hl2))
 have hsg:uK d=1:=by unfold uK;rw [if_neg zo,if_neg zo]
 have hdf:decide (d<0)=false:=by simp;omega
 have D8:=zh hsg
 have hs:=JX hg
 obtain ⟨g,Eg⟩:∃ y:Nat,Hid (n.natAbs.gcd d.natAbs=y):=⟨_,zh rfl⟩
 rw [Eg.out] at hs
 clear hl1 hl2 hd hg hsg hdf
 rcases hs with hs|hs
 all_goals
  have HS:=zh hs
  clear hs
  go_enter Tryz.func134,Tryz.ntmps134
  go_wp2_with fail
  refine (HC.out _).mono ?_
  rintro e v1 ⟨rfl,hc1⟩
  have BR:=au.later (au.fZ _ _ _ _) hc1;have bq:=BR.cell;have bg:=BR.free
  have B0:=au.later (au.alloc (au.new _ _ _) _) hc1;have cB0:=B0.cell;have jZ:=B0.free
  go_wp2_with fail
  refine (HD.out _).mono ?_
  rintro e v2 ⟨rfl,hc2⟩
  replace BR:=au.later (BR) hc2;replace bq:=BR.cell;replace bg:=BR.free
  replace B0:=au.later (B0) hc2;replace cB0:=B0.cell;replace jZ:=B0.free
  go_wp2_with fail
  refine aC [(.pure,0),(.read,1),(.pure,3),(.read,4),(.ext,2),(.ext,5),(.alloc #[.slice none 0 0,.bool false] 123,6),(.alloc #[.slice none 0 0,.bool false] 123,7),(.fin,8),(.fin,9)] zk zk zR zP ?_
  repeat (first|(refine ah rfl rfl fun J h=>?_;go_simp;refine h _ ?_;clear h J)|(refine aB rfl rfl rfl rfl fun J h=>?_;go_simp;refine h _ ?_;clear h J;try go_simp))
  refine aD rfl rfl (fun w3 hb3 J hJ=>?_);go_simp
  replace BR:=au.later (au.drew BR) hb3;replace bq:=BR.cell;replace bg:=BR.free
  replace B0:=au.later (au.drew B0) hb3;replace cB0:=B0.cell;replace jZ:=B0.free
  refine (fA n UN.out _).mono ?_
  rintro e v3 ⟨v,rfl,hc3,hv⟩
  obtain ⟨Kh,Zm,Ls,rfl,HN⟩:=hv;replace HN:=zh HN
  replace BR:=au.later (BR) hc3;replace bq:=BR.cell;replace bg:=BR.free
  replace B0:=au.later (B0) hc3;replace cB0:=B0.cell;replace jZ:=B0.free
  refine hJ _ _ hc3 ?_
  clear hJ J
  refine aD rfl rfl (fun w4 hb4 J hJ=>?_);go_simp
  replace BR:=au.later (BR) hb4;replace bq:=BR.cell;replace bg:=BR.free
  replace B0:=au.later (B0) hb4;replace cB0:=B0.cell;replace jZ:=B0.free
  refine (fA d HL2.out _).mono ?_
  rintro e v4 ⟨v,rfl,hc4,hv⟩
  obtain ⟨OI,lHM,PN,rfl,HM⟩:=hv;replace HM:=zh HM
  replace BR:=au.later (BR) hc4;replace bq:=BR.cell;replace bg:=BR.free
  replace B0:=au.later (B0) hc4;replace cB0:=B0.cell;replace jZ:=B0.free
  refine hJ _ _ hc4 ?_
  clear hJ J
  refine aR rfl (fun b1 w5 UG Le R6 ad6 cO=>?_);go_simp;replace cO:au _ _ _ _:=cO;have ac8:w.heap.size≤b1:=(by first|omega|exact Nat.le_trans (Below.size (B:=w.heap.size) aA) Le)
  replace BR:=au.later (BR) UG;replace bq:=BR.cell;replace bg:=BR.free
  refine aR rfl (fun b2 w6 O7 SK XF SX iy=>?_);go_simp;replace iy:au _ _ _ _:=iy;have av5:w.heap.size≤b2:=(by first|omega|exact Nat.le_trans (Below.size (B:=w.heap.size) aA) SK)
  replace BR:=au.later (BR) O7;replace bq:=BR.cell;replace bg:=BR.free;replace cO:=au.later (cO) O7;replace oF:=cO.cell;replace oC:=cO.free
  refine aI [_,_] rfl (fun w7 dQ=>?_)
  replace BR:=au.later (BR) dQ;replace bq:=BR.cell;replace bg:=BR.free;replace cO:=au.later (cO) dQ;replace oF:=cO.cell;replace oC:=cO.free;replace iy:=au.later (iy) dQ;replace BG:=iy.cell;replace Br:=iy.free
  have n1:b1≠b2:=fun e=>SX (by simp [e])
  have n2:b2≠b1:=fun e=>n1 e.symm
  have n3:=BR.ne cO zd
  have n4:=BR.ne iy zd
  go_wp2_with fail
  refine ((wB _ d _ (aX.aV aG)).mono (by rw [D8.out];exact fun _ _ h=>h)).mono ?_
  rintro e v5 ⟨rfl,kP⟩
  replace HN:=zh (aM.carry HN.out aG kP)
  replace HM:=zh (aM.carry HM.out aG kP)
  replace cO:au _ (b1) _ _:=au.later aJ kP;(try simp only [List.setIfInBounds_toArray,List.set_cons_zero,List.set_cons_succ] at cO);replace oF:=cO.cell;replace oC:=cO.free
  replace iy:au _ (b2) _ _:=au.later aJ kP;(try simp only [List.setIfInBounds_toArray,List.set_cons_zero,List.set_cons_succ] at iy);replace BG:=iy.cell;replace Br:=iy.free
  replace BR:au _ (w.heap.size+1) _ _:=au.later aJ kP;(try simp only [List.setIfInBounds_toArray,List.set_cons_zero,List.set_cons_succ] at BR);replace bq:=BR.cell;replace bg:=BR.free
  go_wp2_with fail
  refine ((mW _ _ n.natAbs d.natAbs _ aG aG (Nat.le_trans S1.out zo) (Nat.le_trans S2.out zo)).mono (by rw [Eg.out];exact fun _ _ h=>h)).mono ?_
  rintro e v6 ⟨v,rfl,hc6,hv⟩
  obtain ⟨aC2,lHG,aH6,rfl⟩:=hv.slice;have HG:=zh hv;clear hv
  replace HN:=zh (aM.later HN.out hc6)
  replace HM:=zh (aM.later HM.out hc6)
  replace cO:=au.later (cO) hc6;replace oF:=cO.cell;replace oC:=cO.free
  replace iy:=au.later (iy) hc6;replace BG:=iy.cell;replace Br:=iy.free
  replace BR:=au.later (BR) hc6;replace bq:=BR.cell;replace bg:=BR.free
  go_wp2_with fail
  refine ((jB _ _ g 1 _ aG (aM.lit zo zo)).mono (by rw [HS.out];exact fun _ _ h=>h)).mono ?_
  rintro e v7 ⟨rfl,Ci⟩
  replace BR:au _ (w.heap.size+1) _ _:=au.later aJ Ci;(try simp only [List.setIfInBounds_toArray,List.set_cons_zero,List.set_cons_succ] at BR);replace bq:=BR.cell;replace bg:=BR.free
  go_wp2_with fail
  refine aP rfl rfl aJ Tryz.underlying125 rfl zk ?_
  exact ⟨rfl,aA⟩
theorem Ox (a:Fr) (h:rd a=none) (w:World):Calls Tryz.prog 134 #[a.v] w (qE w):=by
 obtain ⟨s,t⟩:=a
 show Calls _ _ #[.agg #[.string s,.string t]] _ _
 unfold rd at h
 simp only at h
 cases e1:Dec.whole s.data.toList with
 | none=>exact J3 s t e1 w
 | some n =>
  cases e2:Dec.whole t.data.toList with
  | none=>exact J4 s t n e1 e2 w
  | some d =>
   rw [e1,e2] at h
   simp only at h
   obtain ⟨h1,h2⟩:=nV e1
   obtain ⟨h3,h4⟩:=nV e2
   have hs:s=⟨(Lib.itoa n).toArray⟩:=BI h1
   have ht:t=⟨(Lib.itoa d).toArray⟩:=BI h3
   rw [hs,ht]
   by_cases hd:0<d
   ·refine Fg n d h2 h4 hd (fun e=>?_) w
    rw [dif_pos ⟨hd,e⟩] at h
    cases h
   ·exact Cu n d h2 h4 zo w
theorem dR {s t:ByteArray} {q:Rat} (h:rd ⟨s,t⟩=some q) (w:World):Calls Tryz.prog 134 #[.agg #[.string s,.string t]] w (Jz w q):=by
 obtain ⟨e,hq⟩:=jI h
 have:=Ow q hq w
 rw [← e] at this
 exact this
theorem eZ {s t:ByteArray} (h:rd ⟨s,t⟩=none) (w:World):Calls Tryz.prog 134 #[.agg #[.string s,.string t]] w (qE w):=Ox ⟨s,t⟩ h w
theorem qA (a:Fr) (w:World) :
  Calls Tryz.prog 81 #[a.v] w (fun e w'=>e= .returned (.int .i64 (za a))∧Below w.heap.size w w'):=by
 obtain ⟨s,t⟩:=a
 show Calls _ _ #[.agg #[.string s,.string t]] _ _
 unfold za
 cases h:rd ⟨s,t⟩ with
 | none =>
  have HR:=zh (eZ h)
  clear h
  go_enter Tryz.func81,Tryz.ntmps81
  go_wp2_with fail
  refine (HR.out _).mono ?_
  rintro e v1 ⟨rfl,hc1⟩
  go_wp2_with fail
  go_ret
  exact ⟨rfl,aA⟩
 | some q =>
  have HR:=zh (dR h)
  clear h
  go_enter Tryz.func81,Tryz.ntmps81
  go_wp2_with fail
  refine (HR.out _).mono ?_
  rintro e v1 ⟨v,rfl,hc1,hv⟩
  obtain ⟨xY,O5,yC,xX,OZ,yB,rfl,Hq,qG⟩:=hv;replace Hq:=zh Hq;replace qG:=zh qG
  go_wp2_with fail
  go_ret
  exact ⟨rfl,aA⟩
def pair (x:Int × Int):Value:=.tuple #[.int .i64 x.1,.int .i64 x.2]
theorem jW (a:Fr) (w:World) :
  Calls Tryz.prog 83 #[a.v] w (fun e w'=>e= .returned (pair (fG a))∧Below w.heap.size w w'):=by
 obtain ⟨s,t⟩:=a
 show Calls _ _ #[.agg #[.string s,.string t]] _ _
 unfold fG
 cases h:rd ⟨s,t⟩ with
 | none =>
  have HR:=zh (eZ h)
  clear h
  go_enter Tryz.func83,Tryz.ntmps83
  go_wp2_with fail
  refine (HR.out _).mono ?_
  rintro e v1 ⟨rfl,hc1⟩
  go_wp2_with fail
  go_ret2
  exact ⟨rfl,aA⟩
 | some q =>
  have HR:=zh (dR h)
  have e:=Ot q
  simp only
  rw [← e]
  clear h e
  go_enter Tryz.func83,Tryz.ntmps83
  go_wp2_with fail
  refine (HR.out _).mono ?_
  rintro e v1 ⟨v,rfl,hc1,hv⟩
  obtain ⟨xY,O5,yC,xX,OZ,yB,rfl,Hq,qG⟩:=hv;replace Hq:=zh Hq;replace qG:=zh qG
  go_wp2_with fail
  refine (wB _ q.num _ (aX.aV aG)).mono ?_
  rintro e v2 ⟨rfl,hc2⟩
  go_wp2_with fail
  go_ret2
  exact ⟨rfl,aA⟩
theorem Js (s t s' t':ByteArray) (w:World) :
  Calls Tryz.prog 75 #[.agg #[.string s,.string t],.agg #[.string s',.string t'],.func (.func 76) #[] #[]] w (fun e w'=>e= .returned (pair (PG ⟨s,t⟩ ⟨s',t'⟩))∧Below w.heap.size w w'):=by
 unfold PG
 cases h:rd ⟨s,t⟩ with
 | none =>
  have HR:=zh (eZ h)
  cases k:rd ⟨s',t'⟩ with
  | none =>
   have HS:=zh (eZ k)
   clear h k
   go_enter Tryz.func75,Tryz.ntmps75
   go_wp2_with fail
   refine (HR.out _).mono ?_
   rintro e v1 ⟨rfl,hc1⟩
   have B1:=au.later (au.fZ _ _ _ _) hc1;have cB1:=B1.cell;have mh:=B1.free;have lB1:=B1.lt
   go_wp2_with fail
   refine (HS.out _).mono ?_
   rintro e v2 ⟨rfl,hc2⟩
   go_wp2_with fail
   go_ret2
   exact ⟨rfl,aA⟩
  | some q =>
   have HS:=zh (dR k)
   clear h k
   go_enter Tryz.func75,Tryz.ntmps75
   go_wp2_with fail
   refine (HR.out _).mono ?_
   rintro e v1 ⟨rfl,hc1⟩
   have B1:=au.later (au.fZ _ _ _ _) hc1;have cB1:=B1.cell;have mh:=B1.free;have lB1:=B1.lt
   go_wp2_with fail
   refine (HS.out _).mono ?_
   rintro e v2 ⟨v,rfl,hc2,hv⟩
   obtain ⟨xY,O5,yC,xX,OZ,yB,rfl,Hq,qG⟩:=hv;replace Hq:=zh Hq;replace qG:=zh qG
   go_wp2_with fail
   go_ret2
   exact ⟨rfl,aA⟩
 | some p =>
  have HR:=zh (dR h)
  cases k:rd ⟨s',t'⟩ with
  | none =>
   have HS:=zh (eZ k)
   clear h k
   go_enter Tryz.func75,Tryz.ntmps75
   go_wp2_with fail
   refine (HR.out _).mono ?_
   rintro e v1 ⟨v,rfl,hc1,hv⟩
   obtain ⟨Cw,UF,Dc,Cv,UE,Db,rfl,Hp,nU⟩:=hv;replace Hp:=zh Hp;replace nU:=zh nU
   have B1:=au.later (au.fZ _ _ _ _) hc1;have cB1:=B1.cell;have mh:=B1.free;have lB1:=B1.lt
   go_wp2_with fail
   refine (HS.out _).mono ?_
   rintro e v2 ⟨rfl,hc2⟩
   go_wp2_with fail
   go_ret2
   exact ⟨rfl,aA⟩
  | some q =>
   have HS:=zh (dR k)
   have KP:=zh ((gy (jI h).2).mono (show 67≤1000000 by omega))
   have KQ:=zh ((gy (jI k).2).mono (show 67≤1000000 by omega))
   clear h k
   go_enter Tryz.func75,Tryz.ntmps75
   go_wp2_with fail
   refine (HR.out _).mono ?_
   rintro e v1 ⟨v,rfl,hc1,hv⟩
   obtain ⟨Cw,UF,Dc,Cv,UE,Db,rfl,Hp,nU⟩:=hv;replace Hp:=zh Hp;replace nU:=zh nU
   have B1:=au.later (au.fZ _ _ _ _) hc1;have cB1:=B1.cell;have mh:=B1.free;have lB1:=B1.lt
   go_wp2_with fail
   refine (HS.out _).mono ?_
   rintro e v2 ⟨v,rfl,hc2,hv⟩
   obtain ⟨xY,O5,yC,xX,OZ,yB,rfl,Hq,qG⟩:=hv;replace Hq:=zh Hq;replace qG:=zh qG
   replace X1:au _ (v1.heap.size) _ _:=au.later aJ hc2;(try simp only [List.setIfInBounds_toArray,List.set_cons_zero,List.set_cons_succ] at X1);replace eP:=X1.cell;replace fU:=X1.free;replace eO:=X1.lt
   go_wp2_with fail
   refine (sI _ _ p q _ (dU.of aG aG) (dU.of aG aG) KP.out KQ.out).mono ?_
   rintro e v3 ⟨rfl,hc3⟩
   go_wp2_with fail
   go_ret2
   exact ⟨rfl,aA⟩
theorem ag4 (a b:Fr) (w:World) :
  Calls Tryz.prog 32 #[a.v,b.v] w (fun e w'=>e= .returned (pair (PG a b))∧Below w.heap.size w w'):=by
 obtain ⟨s,t⟩:=a
 obtain ⟨s',t'⟩:=b
 show Calls _ _ #[.agg #[.string s,.string t],.agg #[.string s',.string t']] _ _
 have H:=zh (Js s t s' t')
 unfold pair at *
 generalize PG ⟨s,t⟩ ⟨s',t'⟩=c at *
 obtain ⟨x,y⟩:=c
 go_enter Tryz.func32,Tryz.ntmps32
 go_wp2_with fail
 refine (H.out _).mono ?_
 rintro e v1 ⟨rfl,hc1⟩
 go_wp2_with fail
 go_ret2
 exact ⟨rfl,aA⟩
theorem Ru (x y:Value) (p q:Rat) (w:World) (hx:dU w x p) (hy:dU w y q) (kp:dZ 1000000 p) (kq:dZ 1000000 q) :
  Calls Tryz.prog 142 #[x,y] w (fun e w'=>∃ v,e= .returned v∧Below w.heap.size w w'∧dU w' v (p*q)):=by
 obtain ⟨Ib,lH,Jk,YR,mH,cbH,rfl,H,Hd⟩:=hx;replace H:=zh H;replace Hd:=zh Hd
 obtain ⟨JH,lG,JL,pbG,mG,cbG,rfl,G,Gd⟩:=hy;replace G:=zh G;replace Gd:=zh Gd
 have HP:=zh (Kw p q)
 have hp:=p.den_pos
 have hq:=q.den_pos
 have hg:0<p.num.natAbs.gcd q.den:=Nat.gcd_pos_of_pos_right _ hq
 have hh:0<q.num.natAbs.gcd p.den:=Nat.gcd_pos_of_pos_right _ hp
 obtain ⟨kp1,kp2⟩:=kp
 obtain ⟨kq1,kq2⟩:=kq
 obtain ⟨g,Eg⟩:∃ y:Nat,Hid (p.num.natAbs.gcd q.den=y):=⟨_,zh rfl⟩
 rw [Eg.out] at hg HP
 obtain ⟨h,Eh⟩:∃ y:Nat,Hid (q.num.natAbs.gcd p.den=y):=⟨_,zh rfl⟩
 rw [Eh.out] at hh HP
 have k1:= @fO p.num.natAbs g
 have k2:= @fO p.den h
 have k3:= @fO q.num.natAbs h
 have k4:= @fO q.den g
 obtain ⟨a,Ea⟩:∃ y:Nat,Hid (p.num.natAbs / g=y):=⟨_,zh rfl⟩
 rw [Ea.out] at HP k1
 obtain ⟨b,Eb⟩:∃ y:Nat,Hid (p.den / h=y):=⟨_,zh rfl⟩
 rw [Eb.out] at HP k2
 obtain ⟨c,Ec⟩:∃ y:Nat,Hid (q.num.natAbs / h=y):=⟨_,zh rfl⟩
 rw [Ec.out] at HP k3
 obtain ⟨d,Ed⟩:∃ y:Nat,Hid (q.den / g=y):=⟨_,zh rfl⟩
 rw [Ed.out] at HP k4
 obtain ⟨s,Es⟩:∃ y:Nat,Hid (a*c=y):=⟨_,zh rfl⟩
 rw [Es.out] at HP
 obtain ⟨t,Et⟩:∃ y:Nat,Hid (b*d=y):=⟨_,zh rfl⟩
 rw [Et.out] at HP
 have HGp:=zh hg
 have HHp:=zh hh
 have Kpn:Hid (sz 1000000000 p.num.natAbs≤549755813888):=by unfold Hid;omega
 have Kqn:Hid (sz 1000000000 q.num.natAbs≤549755813888):=by unfold Hid;omega
 have Kpd:Hid (sz 1000000000 p.den≤549755813888):=by unfold Hid;omega
 have Kqd:Hid (sz 1000000000 q.den≤549755813888):=by unfold Hid;omega
 have Ka:Hid (sz 1000000000 a≤1099511627776):=by unfold Hid;omega
 have Kb:Hid (sz 1000000000 b≤1099511627776):=by unfold Hid;omega
 have Kc:Hid (sz 1000000000 c≤1099511627776):=by unfold Hid;omega
 have Kd:Hid (sz 1000000000 d≤1099511627776):=by unfold Hid;omega
 clear k1 k2 k3 k4 kp1 kp2 kq1 kq2 hg hh hp hq
 go_enter Tryz.func142,Tryz.ntmps142
 go_wp2_with fail
 refine ((mW _ _ p.num.natAbs q.den _ aG aG Kpn.out Kqd.out).mono (by rw [Eg.out];exact fun _ _ h=>h)).mono ?_
 rintro e v1 ⟨v,rfl,hc1,hv⟩
 obtain ⟨aP9,lMg,aW4,rfl⟩:=hv.slice;have Mg:=zh hv;clear hv
 replace H:=zh (aM.carry H.out aG hc1)
 replace Hd:=zh (aM.carry Hd.out aG hc1)
 replace G:=zh (aM.carry G.out aG hc1)
 replace Gd:=zh (aM.carry Gd.out aG hc1)
 have BR:=au.later (au.at2 _ _ _ _ _) hc1;have bq:=BR.cell;have bg:=BR.free
 have B1:=au.later (au.alloc (au.fZ _ _ _ _) _) hc1;have cB1:=B1.cell;have mh:=B1.free
 have B0:=au.later (au.alloc (au.alloc (au.new _ _ _) _) _) hc1;have cB0:=B0.cell;have jZ:=B0.free
 go_wp2_with fail
 refine ((mW _ _ q.num.natAbs p.den _ aG aG Kqn.out Kpd.out).mono (by rw [Eh.out];exact fun _ _ h=>h)).mono ?_
 rintro e v2 ⟨v,rfl,hc2,hv⟩
 obtain ⟨aP8,lMh,aW3,rfl⟩:=hv.slice;have Mh:=zh hv;clear hv
 replace H:=zh (aM.later H.out hc2)
 replace Hd:=zh (aM.later Hd.out hc2)
 replace G:=zh (aM.later G.out hc2)
 replace Gd:=zh (aM.later Gd.out hc2)
 replace Mg:=zh (aM.later Mg.out hc2)
 replace BR:=au.later (BR) hc2;replace bq:=BR.cell;replace bg:=BR.free
 replace B1:=au.later (B1) hc2;replace cB1:=B1.cell;replace mh:=B1.free
 replace B0:=au.later (B0) hc2;replace cB0:=B0.cell;replace jZ:=B0.free
 go_wp2_with fail
 refine ((dw _ _ p.num.natAbs g _ aG aG HGp.out Kpn.out).mono (by rw [Ea.out];exact fun _ _ h=>h)).mono ?_
 rintro e v3 ⟨v,vr,rfl,hc3,hv,jh⟩
 obtain ⟨aQ3,lMa,aW8,rfl⟩:=hv.slice;have Ma:=zh hv;clear hv;obtain ⟨aJ1,aS5,aK9,rfl⟩:=jh.slice;have Mar:=zh jh;clear jh
 replace Hd:=zh (aM.later Hd.out hc3)
 replace G:=zh (aM.later G.out hc3)
 replace Gd:=zh (aM.later Gd.out hc3)
 replace Mg:=zh (aM.later Mg.out hc3)
 replace Mh:=zh (aM.later Mh.out hc3)
 replace BR:=au.later (BR) hc3;replace bq:=BR.cell;replace bg:=BR.free
 replace B1:=au.later (B1) hc3;replace cB1:=B1.cell;replace mh:=B1.free
 replace B0:=au.later (B0) hc3;replace cB0:=B0.cell;replace jZ:=B0.free
 go_wp2_with fail
 clear Mar H
 refine ((dw _ _ p.den h _ aG aG HHp.out Kpd.out).mono (by rw [Eb.out];exact fun _ _ h=>h)).mono ?_
 rintro e v4 ⟨v,vr,rfl,hc4,hv,jh⟩
 obtain ⟨aQ2,lMb,aW7,rfl⟩:=hv.slice;have Mb:=zh hv;clear hv;obtain ⟨aJ0,aS4,aK8,rfl⟩:=jh.slice;have Mbr:=zh jh;clear jh
 replace G:=zh (aM.later G.out hc4)
 replace Gd:=zh (aM.later Gd.out hc4)
 replace Mg:=zh (aM.later Mg.out hc4)
 replace Mh:=zh (aM.later Mh.out hc4)
 replace Ma:=zh (aM.later Ma.out hc4)
 replace BR:=au.later (BR) hc4;replace bq:=BR.cell;replace bg:=BR.free
 replace B1:=au.later (B1) hc4;replace cB1:=B1.cell;replace mh:=B1.free
 replace B0:=au.later (B0) hc4;replace cB0:=B0.cell;replace jZ:=B0.free
 go_wp2_with fail
 clear Mbr Hd
 refine ((dw _ _ q.num.natAbs h _ aG aG HHp.out Kqn.out).mono (by rw [Ec.out];exact fun _ _ h=>h)).mono ?_
 rintro e v5 ⟨v,vr,rfl,kP,hv,jh⟩
 obtain ⟨aQ1,lMc,aW6,rfl⟩:=hv.slice;have Mc:=zh hv;clear hv;obtain ⟨aI9,aS3,aK7,rfl⟩:=jh.slice;have Mcr:=zh jh;clear jh
 replace Gd:=zh (aM.later Gd.out kP)
 replace Mg:=zh (aM.later Mg.out kP)
 replace Ma:=zh (aM.later Ma.out kP)
 replace Mb:=zh (aM.later Mb.out kP)
 replace BR:=au.later (BR) kP;replace bq:=BR.cell;replace bg:=BR.free
 replace B1:=au.later (B1) kP;replace cB1:=B1.cell;replace mh:=B1.free
 replace B0:=au.later (B0) kP;replace cB0:=B0.cell;replace jZ:=B0.free
 go_wp2_with fail
 clear Mcr G
 refine ((dw _ _ q.den g _ aG aG HGp.out Kqd.out).mono (by rw [Ed.out];exact fun _ _ h=>h)).mono ?_
 rintro e v6 ⟨v,vr,rfl,hc6,hv,jh⟩
 obtain ⟨aQ0,lMd,aW5,rfl⟩:=hv.slice;have Md:=zh hv;clear hv;obtain ⟨aI8,aS2,aK6,rfl⟩:=jh.slice;have Mdr:=zh jh;clear jh
 replace Ma:=zh (aM.later Ma.out hc6)
 replace Mb:=zh (aM.later Mb.out hc6)
 replace Mc:=zh (aM.later Mc.out hc6)
 replace BR:=au.later (BR) hc6;replace bq:=BR.cell;replace bg:=BR.free
 replace B1:=au.later (B1) hc6;replace cB1:=B1.cell;replace mh:=B1.free
 replace B0:=au.later (B0) hc6;replace cB0:=B0.cell;replace jZ:=B0.free
 go_wp2_with fail
 clear Mdr Gd
 refine aC [(.pure,0),(.pure,1),(.pure,3),(.pure,4),(.read,5),(.pure,6),(.pure,7),(.read,8),(.pure,9),(.pure,11),(.pure,12),(.ext,2),(.ext,10),(.ext,13),(.pure,14),(.fin,15)] zk zk zR zP ?_
 repeat (first|(refine ah rfl rfl fun J h=>?_;go_simp;refine h _ ?_;clear h J)|(refine aB rfl rfl rfl rfl fun J h=>?_;go_simp;refine h _ ?_;clear h J;try go_simp))
 refine aD rfl rfl (fun w7 dQ J hJ=>?_);go_simp
 replace Ma:=zh (aM.carry Ma.out aG dQ)
 replace Mb:=zh (aM.carry Mb.out aG dQ)
 replace Mc:=zh (aM.carry Mc.out aG dQ)
 replace Md:=zh (aM.carry Md.out aG dQ)
 replace BR:=au.later (au.drew BR) dQ;replace bq:=BR.cell;replace bg:=BR.free
 refine ((jl _ _ a c _ aG aG Ka.out Kc.out).mono (by rw [Es.out];exact fun _ _ h=>h)).mono ?_
 rintro e v7 ⟨v,rfl,Ci,hv⟩
 obtain ⟨aP7,lMs,aW2,rfl⟩:=hv.slice;have Ms:=zh hv;clear hv
 replace Ma:=zh (aM.later Ma.out Ci)
 replace Mb:=zh (aM.later Mb.out Ci)
 replace Mc:=zh (aM.later Mc.out Ci)
 replace Md:=zh (aM.later Md.out Ci)
 replace BR:=au.later (BR) Ci;replace bq:=BR.cell;replace bg:=BR.free
 refine hJ _ _ Ci ?_
 clear hJ J
 refine aD rfl rfl (fun w8 kD J hJ=>?_);go_simp
 replace Mb:=zh (aM.later Mb.out kD)
 replace Md:=zh (aM.later Md.out kD)
 replace Ms:=zh (aM.later Ms.out kD)
 replace BR:=au.later (BR) kD;replace bq:=BR.cell;replace bg:=BR.free
 refine (dV _ s _ _ aG).mono ?_
 rintro e v8 ⟨v,rfl,hc8,hv⟩
 obtain ⟨aP5,lMv,aW0,rfl,Mv⟩:=hv;replace Mv:=zh Mv
 replace Mb:=zh (aM.later Mb.out hc8)
 replace Md:=zh (aM.later Md.out hc8)
 replace Ms:=zh (aM.later Ms.out hc8)
 replace BR:=au.later (BR) hc8;replace bq:=BR.cell;replace bg:=BR.free
 refine hJ _ _ hc8 ?_
 clear hJ J
 refine aD rfl rfl (fun w9 gX J hJ=>?_);go_simp
 replace Mb:=zh (aM.later Mb.out gX)
 replace Md:=zh (aM.later Md.out gX)
 replace Mv:=zh (aM.later Mv.out gX)
 replace BR:=au.later (BR) gX;replace bq:=BR.cell;replace bg:=BR.free
 refine ((jl _ _ b d _ aG aG Kb.out Kd.out).mono (by rw [Et.out];exact fun _ _ h=>h)).mono ?_
 rintro e v9 ⟨v,rfl,K5,hv⟩
 obtain ⟨aP6,lMt,aW1,rfl⟩:=hv.slice;have Mt:=zh hv;clear hv
 replace Mb:=zh (aM.later Mb.out K5)
 replace Md:=zh (aM.later Md.out K5)
 replace Mv:=zh (aM.later Mv.out K5)
 replace BR:=au.later (BR) K5;replace bq:=BR.cell;replace bg:=BR.free
 refine hJ _ _ K5 ?_
 clear hJ J
 repeat (first|(refine ah rfl rfl fun J h=>?_;go_simp;refine h _ ?_;clear h J)|(refine aB rfl rfl rfl rfl fun J h=>?_;go_simp;refine h _ ?_;clear h J;try go_simp))
 refine aI [_] rfl (fun Xp IB=>?_)
 replace BR:=au.later (BR) IB;replace bq:=BR.cell;replace bg:=BR.free
 go_wp2_with fail
 refine bO rfl rfl aJ Tryz.underlying125 rfl zk ?_
 exact ⟨_,rfl,aA,dU.mk (jg s (!(decide (p.num<0) == decide (q.num<0)))).natAbs t aG aG (by rw [HP.out.1]) HP.out.2.symm (by rw [HP.out.1])⟩
theorem TP (x y:Value) (p q:Rat) (w:World) (hx:dU w x p) (hy:dU w y q) (kp:dZ 1000000 p) (kq:dZ 1000000 q) :
  Calls Tryz.prog 147 #[x,y] w (fun e w'=>∃ v,e= .returned v∧Below w.heap.size w w'∧dU w' v (p+q)):=by
 obtain ⟨Ib,lH,Jk,YR,mH,cbH,rfl,H,Hd⟩:=hx;replace H:=zh H;replace Hd:=zh Hd
 obtain ⟨JH,lG,JL,pbG,mG,cbG,rfl,G,Gd⟩:=hy;replace G:=zh G;replace Gd:=zh Gd
 have HP:=zh (LC p q)
 have hp:=p.den_pos
 have hq:=q.den_pos
 have hg:0<p.den.gcd q.den:=Nat.gcd_pos_of_pos_right _ hq
 have k1:= @fO q.den (p.den.gcd q.den)
 have k2:= @fO p.den (p.den.gcd q.den)
 have k3:=EU (a:=p.den) hq
 obtain ⟨kp1,kp2⟩:=kp
 obtain ⟨kq1,kq2⟩:=kq
 obtain ⟨g,Eg⟩:∃ y:Nat,Hid (p.den.gcd q.den=y):=⟨_,zh rfl⟩
 rw [Eg.out] at hg HP k1 k2 k3
 obtain ⟨l,El⟩:∃ y:Nat,Hid (q.den / g=y):=⟨_,zh rfl⟩
 rw [El.out] at HP k1
 obtain ⟨r,Er⟩:∃ y:Nat,Hid (p.den / g=y):=⟨_,zh rfl⟩
 rw [Er.out] at HP k2
 have k4:=j5 p.num l
 have k5:=j5 q.num r
 obtain ⟨s,Es⟩:∃ y:Int,Hid (p.num*(l:Int)=y):=⟨_,zh rfl⟩
 rw [Es.out] at HP k4
 obtain ⟨t,Et⟩:∃ y:Int,Hid (q.num*(r:Int)=y):=⟨_,zh rfl⟩
 rw [Et.out] at HP k5
 have k6:=qj s t
 obtain ⟨u,Eu⟩:∃ y:Int,Hid (s+t=y):=⟨_,zh rfl⟩
 rw [Eu.out] at HP k6
 have hh:0<u.natAbs.gcd g:=Nat.gcd_pos_of_pos_right _ hg
 obtain ⟨h,Eh⟩:∃ y:Nat,Hid (u.natAbs.gcd g=y):=⟨_,zh rfl⟩
 rw [Eh.out] at HP hh
 obtain ⟨m,Em⟩:∃ y:Nat,Hid (u.natAbs / h=y):=⟨_,zh rfl⟩
 rw [Em.out] at HP
 obtain ⟨c,Ec⟩:∃ y:Nat,Hid (q.den / h=y):=⟨_,zh rfl⟩
 rw [Ec.out] at HP
 have k7:sz 1000000000 c≤sz 1000000000 q.den:=by rw [← Ec.out];exact fO
 obtain ⟨d,Ed⟩:∃ y:Nat,Hid (r*c=y):=⟨_,zh rfl⟩
 rw [Ed.out] at HP
 have HG:=zh hg
 have HH:=zh hh
 have Kpn:Hid (sz 1000000000 p.num.natAbs≤549755813888):=by unfold Hid;omega
 have Kqn:Hid (sz 1000000000 q.num.natAbs≤549755813888):=by unfold Hid;omega
 have Kpd:Hid (sz 1000000000 p.den≤549755813888):=by unfold Hid;omega
 have Kqd:Hid (sz 1000000000 q.den≤549755813888):=by unfold Hid;omega
 have Kg:Hid (sz 1000000000 g≤549755813888):=by unfold Hid;omega
 have Kl:Hid (sz 1000000000 l≤549755813888):=by unfold Hid;omega
 have Kr:Hid (sz 1000000000 r≤549755813888):=by unfold Hid;omega
 have Ks:Hid (sz 1000000000 s.natAbs≤549755813888):=by unfold Hid;omega
 have Kt:Hid (sz 1000000000 t.natAbs≤549755813888):=by unfold Hid;omega
 have Ku:Hid (sz 1000000000 u.natAbs≤549755813888):=by unfold Hid;omega
 have Kc:Hid (sz 1000000000 c≤549755813888):=by unfold Hid;omega
 clear k1 k2 k3 k4 k5 k6 k7 kp1 kp2 kq1 kq2 hg hh hp hq
 go_enter Tryz.func147,Tryz.ntmps147
 go_wp2_with fail
 refine ((mW _ _ p.den q.den _ aG aG Kpd.out Kqd.out).mono (by rw [Eg.out];exact fun _ _ h=>h)).mono ?_
 rintro e v1 ⟨v,rfl,hc1,hv⟩
 obtain ⟨Q8,lHg,TJ,rfl⟩:=hv.slice;have Hg:=zh hv;clear hv
 have BR:=au.later (au.at2 _ _ _ _ _) hc1;have bq:=BR.cell;have bg:=BR.free
 have B1:=au.later (au.alloc (au.fZ _ _ _ _) _) hc1;have cB1:=B1.cell;have mh:=B1.free
 have B0:=au.later (au.alloc (au.alloc (au.new _ _ _) _) _) hc1;have cB0:=B0.cell;have jZ:=B0.free
 go_wp2_with fail
 refine ((dw _ _ q.den g _ aG aG HG.out Kqd.out).mono (by rw [El.out];exact fun _ _ h=>h)).mono ?_
 rintro e v2 ⟨v,vr,rfl,hc2,hv,jh⟩
 obtain ⟨aQ5,lHl,aX0,rfl⟩:=hv.slice;have Hl:=zh hv;clear hv;obtain ⟨aJ4,aS8,aL2,rfl⟩:=jh.slice;have Hlr:=zh jh;clear jh
 replace BR:=au.later (BR) hc2;replace bq:=BR.cell;replace bg:=BR.free
 replace B1:=au.later (B1) hc2;replace cB1:=B1.cell;replace mh:=B1.free
 replace B0:=au.later (B0) hc2;replace cB0:=B0.cell;replace jZ:=B0.free
 go_wp2_with fail
 refine ((dw _ _ p.den g _ aG aG HG.out Kpd.out).mono (by rw [Er.out];exact fun _ _ h=>h)).mono ?_
 rintro e v3 ⟨v,vr,rfl,hc3,hv,jh⟩
 obtain ⟨Ia,Xx,Jj,rfl⟩:=hv.slice;have Hr:=zh hv;clear hv;obtain ⟨aJ2,aS6,aL0,rfl⟩:=jh.slice;have Hrr:=zh jh;clear jh
 replace BR:=au.later (BR) hc3;replace bq:=BR.cell;replace bg:=BR.free
 replace B1:=au.later (B1) hc3;replace cB1:=B1.cell;replace mh:=B1.free
 replace B0:=au.later (B0) hc3;replace cB0:=B0.cell;replace jZ:=B0.free
 go_wp2_with fail
 refine aC [(.pure,0),(.read,1),(.pure,2),(.pure,4),(.read,5),(.pure,6),(.ext,3),(.ext,7),(.ext,8),(.alloc #[.slice none 0 0,.bool false] 123,9),(.fin,10)] zk zk zR zP ?_
 repeat (first|(refine ah rfl rfl fun J h=>?_;go_simp;refine h _ ?_;clear h J)|(refine aB rfl rfl rfl rfl fun J h=>?_;go_simp;refine h _ ?_;clear h J;try go_simp))
 refine aD rfl rfl (fun w4 hb4 J hJ=>?_);go_simp
 replace BR:=au.later (au.drew BR) hb4;replace bq:=BR.cell;replace bg:=BR.free
 replace B1:=au.later (au.drew B1) hb4;replace cB1:=B1.cell;replace mh:=B1.free
 replace B0:=au.later (au.drew B0) hb4;replace cB0:=B0.cell;replace jZ:=B0.free
 refine ((lg _ _ p.num l _ (aX.aV aG) aG Kpn.out Kl.out).mono (by rw [Es.out];exact fun _ _ h=>h)).mono ?_
 rintro e v4 ⟨v,rfl,hc4,hv⟩
 obtain ⟨OH,lHs,PK,rfl,Hs⟩:=hv;replace Hs:=zh Hs
 replace BR:=au.later (BR) hc4;replace bq:=BR.cell;replace bg:=BR.free
 replace B1:=au.later (B1) hc4;replace cB1:=B1.cell;replace mh:=B1.free
 replace B0:=au.later (B0) hc4;replace cB0:=B0.cell;replace jZ:=B0.free
 refine hJ _ _ hc4 ?_
 clear hJ J
 refine aD rfl rfl (fun w5 hb5 J hJ=>?_);go_simp
 replace BR:=au.later (BR) hb5;replace bq:=BR.cell;replace bg:=BR.free
 replace B1:=au.later (B1) hb5;replace cB1:=B1.cell;replace mh:=B1.free
 replace B0:=au.later (B0) hb5;replace cB0:=B0.cell;replace jZ:=B0.free
 refine ((lg _ _ q.num r _ (aX.aV aG) aG Kqn.out Kr.out).mono (by rw [Et.out];exact fun _ _ h=>h)).mono ?_
 rintro e v5 ⟨v,rfl,kP,hv⟩
 obtain ⟨YT,lHt,ae9,rfl,Ht⟩:=hv;replace Ht:=zh Ht
 replace BR:=au.later (BR) kP;replace bq:=BR.cell;replace bg:=BR.free
 replace B1:=au.later (B1) kP;replace cB1:=B1.cell;replace mh:=B1.free
 replace B0:=au.later (B0) kP;replace cB0:=B0.cell;replace jZ:=B0.free
 refine hJ _ _ kP ?_
 clear hJ J
 refine aD rfl rfl (fun w6 hb6 J hJ=>?_);go_simp
 replace BR:=au.later (BR) hb6;replace bq:=BR.cell;replace bg:=BR.free
 replace B1:=au.later (B1) hb6;replace cB1:=B1.cell;replace mh:=B1.free
 replace B0:=au.later (B0) hb6;replace cB0:=B0.cell;replace jZ:=B0.free
 refine ((vC _ _ s t _ (aX.aV aG) (aX.aV aG) Ks.out Kt.out).mono (by rw [Eu.out];exact fun _ _ h=>h)).mono ?_
 rintro e v6 ⟨v,rfl,hc6,hv⟩
 obtain ⟨aQ4,lHu,aW9,rfl,Hu⟩:=hv;replace Hu:=zh Hu
 replace BR:=au.later (BR) hc6;replace bq:=BR.cell;replace bg:=BR.free
 replace B1:=au.later (B1) hc6;replace cB1:=B1.cell;replace mh:=B1.free
 replace B0:=au.later (B0) hc6;replace cB0:=B0.cell;replace jZ:=B0.free
 refine hJ _ _ hc6 ?_
 clear hJ J
 refine aR rfl (fun b1 w7 hw7 Le R6 ad6 cO=>?_);go_simp;replace cO:au _ _ _ _:=cO;have ac8:w.heap.size≤b1:=(by first|omega|exact Nat.le_trans (Below.size (B:=w.heap.size) aA) Le)
 replace BR:=au.later (BR) hw7;replace bq:=BR.cell;replace bg:=BR.free;replace B1:=au.later (B1) hw7;replace cB1:=B1.cell;replace mh:=B1.free;replace B0:=au.later (B0) hw7;replace cB0:=B0.cell;replace jZ:=B0.free
 refine aI [_] rfl (fun w8 kD=>?_)
 replace BR:=au.later (BR) kD;replace bq:=BR.cell;replace bg:=BR.free;replace B1:=au.later (B1) kD;replace cB1:=B1.cell;replace mh:=B1.free;replace B0:=au.later (B0) kD;replace cB0:=B0.cell;replace jZ:=B0.free;replace cO:=au.later (cO) kD;replace oF:=cO.cell;replace oC:=cO.free
 have n0:=B0.ne cO zd
 have n1:=B1.ne cO zd
 have n2:=BR.ne cO zd
 go_wp2_with fail
 refine ((mW _ _ u.natAbs g _ aG aG Ku.out Kg.out).mono (by rw [Eh.out];exact fun _ _ h=>h)).mono ?_
 rintro e v9 ⟨v,rfl,K5,hv⟩
 obtain ⟨aQ6,lHh,aX1,rfl⟩:=hv.slice;have Hh:=zh hv;clear hv
 replace Hu:=zh (aM.carry Hu.out aG K5)
 replace Hg:=zh (aM.carry Hg.out aG K5)
 replace Hr:=zh (aM.carry Hr.out aG K5)
 replace G:=zh (aM.carry G.out aG K5)
 replace Gd:=zh (aM.carry Gd.out aG K5)
 replace cO:au _ (b1) _ _:=au.later aJ K5;(try simp only [List.setIfInBounds_toArray,List.set_cons_zero,List.set_cons_succ] at cO);replace oF:=cO.cell;replace oC:=cO.free
 replace BR:au _ (w.heap.size+1+1) _ _:=au.later aJ K5;(try simp only [List.setIfInBounds_toArray,List.set_cons_zero,List.set_cons_succ] at BR);replace bq:=BR.cell;replace bg:=BR.free
 replace B1:au _ (w.heap.size+1) _ _:=au.later aJ K5;(try simp only [List.setIfInBounds_toArray,List.set_cons_zero,List.set_cons_succ] at B1);replace cB1:=B1.cell;replace mh:=B1.free
 replace B0:au _ (w.heap.size) _ _:=au.later aJ K5;(try simp only [List.setIfInBounds_toArray,List.set_cons_zero,List.set_cons_succ] at B0);replace cB0:=B0.cell;replace jZ:=B0.free
 go_wp2_with fail
 refine ((dw _ _ u.natAbs h _ aG aG HH.out Ku.out).mono (by rw [Em.out];exact fun _ _ h=>h)).mono ?_
 rintro e v10 ⟨v,vr,rfl,V4,hv,jh⟩
 obtain ⟨am9,lHm,aw7,rfl⟩:=hv.slice;have Hm:=zh hv;clear hv;obtain ⟨aJ3,aS7,aL1,rfl⟩:=jh.slice;have Hmr:=zh jh;clear jh
 replace cO:=au.later (cO) V4;replace oF:=cO.cell;replace oC:=cO.free
 replace BR:=au.later (BR) V4;replace bq:=BR.cell;replace bg:=BR.free
 replace B1:=au.later (B1) V4;replace cB1:=B1.cell;replace mh:=B1.free
 replace B0:=au.later (B0) V4;replace cB0:=B0.cell;replace jZ:=B0.free
 go_wp2_with fail
 refine ((dw _ _ q.den h _ aG aG HH.out Kqd.out).mono (by rw [Ec.out];exact fun _ _ h=>h)).mono ?_
 rintro e v11 ⟨v,vr,rfl,uN,hv,jh⟩
 obtain ⟨aC0,lHc,aH4,rfl⟩:=hv.slice;have Hc:=zh hv;clear hv;obtain ⟨an0,aC5,aw8,rfl⟩:=jh.slice;have Hcr:=zh jh;clear jh
 replace cO:=au.later (cO) uN;replace oF:=cO.cell;replace oC:=cO.free
 replace BR:=au.later (BR) uN;replace bq:=BR.cell;replace bg:=BR.free
 replace B1:=au.later (B1) uN;replace cB1:=B1.cell;replace mh:=B1.free
 replace B0:=au.later (B0) uN;replace cB0:=B0.cell;replace jZ:=B0.free
 go_wp2_with fail
 refine (dV _ m _ _ aG).mono ?_
 rintro e v12 ⟨v,rfl,CY,hv⟩
 obtain ⟨aB8,lHv,aH2,rfl,Hv⟩:=hv;replace Hv:=zh Hv
 replace cO:=au.later (cO) CY;replace oF:=cO.cell;replace oC:=cO.free
 replace BR:=au.later (BR) CY;replace bq:=BR.cell;replace bg:=BR.free
 go_wp2_with fail
 refine ((jl _ _ r c _ aG aG (Nat.le_trans Kr.out zo) (Nat.le_trans Kc.out zo)).mono (by rw [Ed.out];exact fun _ _ h=>h)).mono ?_
 rintro e v13 ⟨v,rfl,V3,hv⟩
 obtain ⟨aB9,lHd,aH3,rfl⟩:=hv.slice;have Hd:=zh hv;clear hv
 replace BR:=au.later (BR) V3;replace bq:=BR.cell;replace bg:=BR.free
 go_wp2_with fail
 refine bO rfl rfl aJ Tryz.underlying125 rfl zk ?_
 exact ⟨_,rfl,aA,dU.mk (jg m (decide (u<0))).natAbs d aG aG (by rw [HP.out.1]) HP.out.2.symm (by rw [HP.out.1])⟩
theorem YK (x y:Value) (p q:Rat) (w:World) (hx:dU w x p) (hy:dU w y q) (kp:dZ 1000000 p) (kq:dZ 1000000 q) :
  Calls Tryz.prog 148 #[x,y] w (fun e w'=>∃ v,e= .returned v∧Below w.heap.size w w'∧dU w' v (p - q)):=by
 obtain ⟨Ib,lH,Jk,YR,mH,cbH,rfl,H,Hd⟩:=hx;replace H:=zh H;replace Hd:=zh Hd
 obtain ⟨JH,lG,JL,pbG,mG,cbG,rfl,G,Gd⟩:=hy;replace G:=zh G;replace Gd:=zh Gd
 rw [Rat.sub_eq_add_neg]
 have KP:=zh kp
 have KQ:=zh (qM kq)
 clear kp kq
 obtain ⟨r,Er⟩:∃ y:Rat,Hid (-q=y):=⟨_,zh rfl⟩
 rw [Er.out] at KQ ⊢
 obtain ⟨s,Es⟩:∃ y:Rat,Hid (p+r=y):=⟨_,zh rfl⟩
 rw [Es.out]
 go_enter Tryz.func148,Tryz.ntmps148
 go_wp2_with fail
 refine aC [(.read,0),(.read,1),(.ext,2),(.ext,3),(.fin,4)] zk zk zR zP ?_
 repeat (first|(refine ah rfl rfl fun J h=>?_;go_simp;refine h _ ?_;clear h J)|(refine aB rfl rfl rfl rfl fun J h=>?_;go_simp;refine h _ ?_;clear h J;try go_simp))
 refine aD rfl rfl (fun w1 hb1 J hJ=>?_);go_simp
 have BR:=au.later (au.drew (au.at2 _ _ _ _ _)) hb1;have bq:=BR.cell;have bg:=BR.free
 refine ((Kv _ q _ (dU.of aG aG)).mono (by rw [Er.out];exact fun _ _ h=>h)).mono ?_
 rintro e v1 ⟨v,rfl,hc1,hv⟩
 obtain ⟨Ia,Xx,Jj,J7,Zf,Lr,rfl,Hr,yH⟩:=hv;replace Hr:=zh Hr;replace yH:=zh yH
 replace BR:=au.later (BR) hc1;replace bq:=BR.cell;replace bg:=BR.free
 refine hJ _ _ hc1 ?_
 clear hJ J
 refine aD rfl rfl (fun w2 hb2 J hJ=>?_);go_simp
 replace BR:=au.later (BR) hb2;replace bq:=BR.cell;replace bg:=BR.free
 refine ((TP _ _ p r _ (dU.of aG aG) (dU.of aG aG) KP.out KQ.out).mono (by rw [Es.out];exact fun _ _ h=>h)).mono ?_
 rintro e v2 ⟨v,rfl,hc2,hv⟩
 obtain ⟨OH,lHs,PK,aP4,mHs,aV5,rfl,Hs,Hsd⟩:=hv;replace Hs:=zh Hs;replace Hsd:=zh Hsd
 replace BR:=au.later (BR) hc2;replace bq:=BR.cell;replace bg:=BR.free
 refine hJ _ _ hc2 ?_
 clear hJ J
 repeat (first|(refine ah rfl rfl fun J h=>?_;go_simp;refine h _ ?_;clear h J)|(refine aB rfl rfl rfl rfl fun J h=>?_;go_simp;refine h _ ?_;clear h J;try go_simp))
 refine aI [_] rfl (fun Xp IB=>?_)
 replace BR:=au.later (BR) IB;replace bq:=BR.cell;replace bg:=BR.free
 go_wp2_with fail
 refine bO rfl rfl aJ Tryz.underlying125 rfl zk ?_
 exact ⟨_,rfl,aA,dU.of aG aG⟩
theorem vG (w:World) :
  Calls Tryz.prog 145 #[.agg #[.slice none 0 0,.bool false,.slice none 0 0],.int .i64 20] w (fun e w'=>e= .returned (.tuple #[.agg #[.string ⟨#[]⟩,.string ⟨#[]⟩],.int .i64 20])∧Below w.heap.size w w'):=by
 go_enter Tryz.func145,Tryz.ntmps145
 go_wp2_with fail
 refine aP rfl rfl aJ Tryz.underlying36 rfl zk ?_
 exact ⟨rfl,aA⟩
theorem xU (v:Value) (q:Rat) (w:World) (h:dU w v q) (k:dZ 1000000 q) (ht:pE.Pow w) :
  Calls Tryz.prog 145 #[v,.int .i64 0] w (fun e w'=>e= .returned (Fr.res (wr q))∧Below w.heap.size w w'):=by
 obtain ⟨Ib,lH,Jk,YR,mH,cbH,rfl,H,Hd⟩:=h;replace H:=zh H;replace Hd:=zh Hd
 have HT:=zh ht
 have K:=zh k
 clear ht k
 obtain ⟨x,Ex⟩:∃ y:FrI,Hid (wr q=y):=⟨_,zh rfl⟩
 rw [Ex.out]
 obtain ⟨⟨s,t⟩,e⟩:=x
 rw [kI]
 go_enter Tryz.func145,Tryz.ntmps145
 go_wp2_with fail
 refine ((jO _ q _ (dU.of aG aG) K.out (HT.out.later aA)).mono (by rw [Ex.out,kI];exact fun _ _ h=>h)).mono ?_
 rintro e v1 ⟨rfl,hc1⟩
 have BR:=au.later (au.fZ _ _ _ _) hc1;have bq:=BR.cell;have bg:=BR.free;have fI:=BR.lt
 go_wp2_with fail
 refine aP rfl rfl aJ Tryz.underlying36 rfl zk ?_
 exact ⟨rfl,aA⟩
theorem PW (s t s' t':ByteArray) (w:World) (p q:Rat) (h:rd ⟨s,t⟩=some p) (k:rd ⟨s',t'⟩=some q) :
  Calls Tryz.prog 146 #[.agg #[.string s,.string t],.agg #[.string s',.string t'],.func (.func 147) #[] #[]] w (fun e w'=>∃ v,e= .returned (.tuple #[v,.int .i64 0])∧Below w.heap.size w w'∧dU w' v (p+q)):=by
 have HR:=zh (dR h)
 have HS:=zh (dR k)
 have KP:=zh ((gy (jI h).2).mono (show 67≤1000000 by omega))
 have KQ:=zh ((gy (jI k).2).mono (show 67≤1000000 by omega))
 clear h k
 obtain ⟨r,Er⟩:∃ y:Rat,Hid (p+q=y):=⟨_,zh rfl⟩
 rw [Er.out]
 go_enter Tryz.func146,Tryz.ntmps146
 go_wp2_with fail
 refine (HR.out _).mono ?_
 rintro e v1 ⟨v,rfl,hc1,hv⟩
 obtain ⟨Cw,UF,Dc,Cv,UE,Db,rfl,Hp,nU⟩:=hv;replace Hp:=zh Hp;replace nU:=zh nU
 have BR:=au.later (au.at2 _ _ _ _ _) hc1;have bq:=BR.cell;have bg:=BR.free;have fI:=BR.lt
 have B1:=au.later (au.alloc (au.fZ _ _ _ _) _) hc1;have cB1:=B1.cell;have mh:=B1.free;have lB1:=B1.lt
 go_wp2_with fail
 refine (HS.out _).mono ?_
 rintro e v2 ⟨v,rfl,hc2,hv⟩
 obtain ⟨xY,O5,yC,xX,OZ,yB,rfl,Hq,qG⟩:=hv;replace Hq:=zh Hq;replace qG:=zh qG
 replace Hp:=zh (aM.carry Hp.out aG hc2)
 replace nU:=zh (aM.carry nU.out aG hc2)
 replace X1:au _ (v1.heap.size) _ _:=au.later aJ hc2;(try simp only [List.setIfInBounds_toArray,List.set_cons_zero,List.set_cons_succ] at X1);replace eP:=X1.cell;replace fU:=X1.free;replace eO:=X1.lt
 replace BR:au _ (w.heap.size+1+1) _ _:=au.later aJ hc2;(try simp only [List.setIfInBounds_toArray,List.set_cons_zero,List.set_cons_succ] at BR);replace bq:=BR.cell;replace bg:=BR.free;replace fI:=BR.lt
 go_wp2_with fail
 refine ((TP _ _ p q _ (dU.of aG aG) (dU.of aG aG) KP.out KQ.out).mono (by rw [Er.out];exact fun _ _ h=>h)).mono ?_
 rintro e v3 ⟨v,rfl,hc3,hv⟩
 obtain ⟨Ia,Xx,Jj,J7,Zf,Lr,rfl,Hr,yH⟩:=hv;replace Hr:=zh Hr;replace yH:=zh yH
 replace BR:au _ (w.heap.size+1+1) _ _:=au.later aJ hc3;(try simp only [List.setIfInBounds_toArray,List.set_cons_zero,List.set_cons_succ] at BR);replace bq:=BR.cell;replace bg:=BR.free;replace fI:=BR.lt
 go_wp2_with fail
 refine aP rfl rfl aJ Tryz.underlying125 rfl zk ?_
 exact ⟨_,rfl,aA,dU.of aG aG⟩
theorem Dh (s t s' t':ByteArray) (w:World) (h:rd ⟨s,t⟩=none∨rd ⟨s',t'⟩=none) :
  Calls Tryz.prog 146 #[.agg #[.string s,.string t],.agg #[.string s',.string t'],.func (.func 147) #[] #[]] w (fun e w'=>e= .returned (.tuple #[.agg #[.slice none 0 0,.bool false,.slice none 0 0],.int .i64 20])∧Below w.heap.size w w'):=by
 cases h1:rd ⟨s,t⟩ with
 | none =>
  have HR:=zh (eZ h1)
  cases k:rd ⟨s',t'⟩ with
  | none =>
   have HS:=zh (eZ k)
   clear h k h1
   go_enter Tryz.func146,Tryz.ntmps146
   go_wp2_with fail
   refine (HR.out _).mono ?_
   rintro e v1 ⟨rfl,hc1⟩
   have BR:=au.later (au.at2 _ _ _ _ _) hc1;have bq:=BR.cell;have bg:=BR.free;have fI:=BR.lt
   have B1:=au.later (au.alloc (au.fZ _ _ _ _) _) hc1;have cB1:=B1.cell;have mh:=B1.free;have lB1:=B1.lt
   go_wp2_with fail
   refine (HS.out _).mono ?_
   rintro e v2 ⟨rfl,hc2⟩
   replace BR:au _ (w.heap.size+1+1) _ _:=au.later aJ hc2;replace bq:=BR.cell;replace bg:=BR.free;replace fI:=BR.lt
   have q1:w.heap.size+1<v2.heap.size:=by omega
   go_wp2_with fail
   refine aP rfl rfl aJ Tryz.underlying125 rfl zk ?_
   exact ⟨rfl,aA⟩
  | some q =>
   have HS:=zh (dR k)
   clear h k h1
   go_enter Tryz.func146,Tryz.ntmps146
   go_wp2_with fail
   refine (HR.out _).mono ?_
   rintro e v1 ⟨rfl,hc1⟩
   have BR:=au.later (au.at2 _ _ _ _ _) hc1;have bq:=BR.cell;have bg:=BR.free;have fI:=BR.lt
   have B1:=au.later (au.alloc (au.fZ _ _ _ _) _) hc1;have cB1:=B1.cell;have mh:=B1.free;have lB1:=B1.lt
   go_wp2_with fail
   refine (HS.out _).mono ?_
   rintro e v2 ⟨v,rfl,hc2,hv⟩
   obtain ⟨xY,O5,yC,xX,OZ,yB,rfl,Hq,qG⟩:=hv;replace Hq:=zh Hq;replace qG:=zh qG
   replace BR:au _ (w.heap.size+1+1) _ _:=au.later aJ hc2;replace bq:=BR.cell;replace bg:=BR.free;replace fI:=BR.lt
   have q1:w.heap.size+1<v2.heap.size:=by omega
   go_wp2_with fail
   refine aP rfl rfl aJ Tryz.underlying125 rfl zk ?_
   exact ⟨rfl,aA⟩
 | some p =>
  have HR:=zh (dR h1)
  cases k:rd ⟨s',t'⟩ with
  | none =>
   have HS:=zh (eZ k)
   clear h k h1
   go_enter Tryz.func146,Tryz.ntmps146
   go_wp2_with fail
   refine (HR.out _).mono ?_
   rintro e v1 ⟨v,rfl,hc1,hv⟩
   obtain ⟨Cw,UF,Dc,Cv,UE,Db,rfl,Hp,nU⟩:=hv;replace Hp:=zh Hp;replace nU:=zh nU
   have BR:=au.later (au.at2 _ _ _ _ _) hc1;have bq:=BR.cell;have bg:=BR.free;have fI:=BR.lt
   have B1:=au.later (au.alloc (au.fZ _ _ _ _) _) hc1;have cB1:=B1.cell;have mh:=B1.free;have lB1:=B1.lt
   go_wp2_with fail
   refine (HS.out _).mono ?_
   rintro e v2 ⟨rfl,hc2⟩
   replace BR:au _ (w.heap.size+1+1) _ _:=au.later aJ hc2;replace bq:=BR.cell;replace bg:=BR.free;replace fI:=BR.lt
   have q1:w.heap.size+1<v2.heap.size:=by omega
   go_wp2_with fail
   refine aP rfl rfl aJ Tryz.underlying125 rfl zk ?_
   exact ⟨rfl,aA⟩
  | some q=>rw [h1,k] at h;simp at h
theorem Cg (a b:Fr) (w:World) (ht:pE.Pow w) :
  Calls Tryz.prog 89 #[a.v,b.v] w (fun e w'=>e= .returned (Fr.res (Jv a b))∧Below w.heap.size w w'):=by
 obtain ⟨s,t⟩:=a
 obtain ⟨s',t'⟩:=b
 show Calls _ _ #[.agg #[.string s,.string t],.agg #[.string s',.string t']] _ _
 unfold Jv
 have HT:=zh ht
 clear ht
 by_cases hbad:rd ⟨s,t⟩=none∨rd ⟨s',t'⟩=none
 ·have e:∀ f,bin f ⟨s,t⟩ ⟨s',t'⟩=(Fr.no,20):=fun f=>by
   rcases hbad with h|h
   ·exact o7 h
   ·exact oZ h
  rw [e]
  have HA:=zh (fun w=>Dh s t s' t' w hbad)
  clear hbad e
  go_enter Tryz.func89,Tryz.ntmps89
  go_wp2_with fail
  refine (HA.out _).mono ?_
  rintro e v1 ⟨rfl,hc1⟩
  have BR:=au.later (au.at2 _ _ _ _ _) hc1;have bq:=BR.cell;have bg:=BR.free;have fI:=BR.lt
  go_wp2_with fail
  refine (vG _).mono ?_
  rintro e v2 ⟨rfl,hc2⟩
  replace BR:=au.later (BR) hc2;replace bq:=BR.cell;replace bg:=BR.free;replace fI:=BR.lt
  go_wp2_with fail
  refine aP rfl rfl aJ Tryz.underlying36 rfl zk ?_
  exact ⟨rfl,aA⟩
 ·obtain ⟨p,hp⟩:∃ p,rd ⟨s,t⟩=some p:=Option.ne_none_iff_exists'.1 (fun e=>hbad (.inl e))
  obtain ⟨q,hq⟩:∃ q,rd ⟨s',t'⟩=some q:=Option.ne_none_iff_exists'.1 (fun e=>hbad (.inr e))
  rw [iQ hp hq]
  have KP:=zh (gy (jI hp).2)
  have KQ:=zh (gy (jI hq).2)
  have HA:=zh (fun w=>PW s t s' t' w p q hp hq)
  have KR:Hid (dZ 1000000 (p+q)):=zh (dZ.mono (k:=135) (uf KP.out KQ.out) zo)
  clear hp hq hbad KP KQ
  obtain ⟨r,Er⟩:∃ y:Rat,Hid (p+q=y):=⟨_,zh rfl⟩
  simp only [Er.out] at KR HA ⊢
  obtain ⟨x,Ex⟩:∃ y:FrI,Hid (wr r=y):=⟨_,zh rfl⟩
  rw [Ex.out]
  obtain ⟨⟨s1,t1⟩,e⟩:=x
  rw [kI]
  go_enter Tryz.func89,Tryz.ntmps89
  go_wp2_with fail
  refine (HA.out _).mono ?_
  rintro e v1 ⟨v,rfl,hc1,hv⟩
  obtain ⟨Ia,Xx,Jj,J7,Zf,Lr,rfl,Hr,yH⟩:=hv;replace Hr:=zh Hr;replace yH:=zh yH
  have BR:=au.later (au.at2 _ _ _ _ _) hc1;have bq:=BR.cell;have bg:=BR.free;have fI:=BR.lt
  go_wp2_with fail
  refine ((xU _ r _ (dU.of aG aG) KR.out (HT.out.later aA)).mono (by rw [Ex.out,kI];exact fun _ _ h=>h)).mono ?_
  rintro e v2 ⟨rfl,hc2⟩
  replace BR:=au.later (BR) hc2;replace bq:=BR.cell;replace bg:=BR.free;replace fI:=BR.lt
  go_wp2_with fail
  refine aP rfl rfl aJ Tryz.underlying36 rfl zk ?_
  exact ⟨rfl,aA⟩
theorem PU (s t s' t':ByteArray) (w:World) (p q:Rat) (h:rd ⟨s,t⟩=some p) (k:rd ⟨s',t'⟩=some q) :
  Calls Tryz.prog 146 #[.agg #[.string s,.string t],.agg #[.string s',.string t'],.func (.func 148) #[] #[]] w (fun e w'=>∃ v,e= .returned (.tuple #[v,.int .i64 0])∧Below w.heap.size w w'∧dU w' v (p - q)):=by
 have HR:=zh (dR h)
 have HS:=zh (dR k)
 have KP:=zh ((gy (jI h).2).mono (show 67≤1000000 by omega))
 have KQ:=zh ((gy (jI k).2).mono (show 67≤1000000 by omega))
 clear h k
 obtain ⟨r,Er⟩:∃ y:Rat,Hid (p - q=y):=⟨_,zh rfl⟩
 rw [Er.out]
 go_enter Tryz.func146,Tryz.ntmps146
 go_wp2_with fail
 refine (HR.out _).mono ?_
 rintro e v1 ⟨v,rfl,hc1,hv⟩
 obtain ⟨Cw,UF,Dc,Cv,UE,Db,rfl,Hp,nU⟩:=hv;replace Hp:=zh Hp;replace nU:=zh nU
 have BR:=au.later (au.at2 _ _ _ _ _) hc1;have bq:=BR.cell;have bg:=BR.free;have fI:=BR.lt
 have B1:=au.later (au.alloc (au.fZ _ _ _ _) _) hc1;have cB1:=B1.cell;have mh:=B1.free;have lB1:=B1.lt
 go_wp2_with fail
 refine (HS.out _).mono ?_
 rintro e v2 ⟨v,rfl,hc2,hv⟩
 obtain ⟨xY,O5,yC,xX,OZ,yB,rfl,Hq,qG⟩:=hv;replace Hq:=zh Hq;replace qG:=zh qG
 replace Hp:=zh (aM.carry Hp.out aG hc2)
 replace nU:=zh (aM.carry nU.out aG hc2)
 replace X1:au _ (v1.heap.size) _ _:=au.later aJ hc2;(try simp only [List.setIfInBounds_toArray,List.set_cons_zero,List.set_cons_succ] at X1);replace eP:=X1.cell;replace fU:=X1.free;replace eO:=X1.lt
 replace BR:au _ (w.heap.size+1+1) _ _:=au.later aJ hc2;(try simp only [List.setIfInBounds_toArray,List.set_cons_zero,List.set_cons_succ] at BR);replace bq:=BR.cell;replace bg:=BR.free;replace fI:=BR.lt
 go_wp2_with fail
 refine ((YK _ _ p q _ (dU.of aG aG) (dU.of aG aG) KP.out KQ.out).mono (by rw [Er.out];exact fun _ _ h=>h)).mono ?_
 rintro e v3 ⟨v,rfl,hc3,hv⟩
 obtain ⟨Ia,Xx,Jj,J7,Zf,Lr,rfl,Hr,yH⟩:=hv;replace Hr:=zh Hr;replace yH:=zh yH
 replace BR:au _ (w.heap.size+1+1) _ _:=au.later aJ hc3;(try simp only [List.setIfInBounds_toArray,List.set_cons_zero,List.set_cons_succ] at BR);replace bq:=BR.cell;replace bg:=BR.free;replace fI:=BR.lt
 go_wp2_with fail
 refine aP rfl rfl aJ Tryz.underlying125 rfl zk ?_
 exact ⟨_,rfl,aA,dU.of aG aG⟩
theorem Df (s t s' t':ByteArray) (w:World) (h:rd ⟨s,t⟩=none∨rd ⟨s',t'⟩=none) :
  Calls Tryz.prog 146 #[.agg #[.string s,.string t],.agg #[.string s',.string t'],.func (.func 148) #[] #[]] w (fun e w'=>e= .returned (.tuple #[.agg #[.slice none 0 0,.bool false,.slice none 0 0],.int .i64 20])∧Below w.heap.size w w'):=by
 cases h1:rd ⟨s,t⟩ with
 | none =>
  have HR:=zh (eZ h1)
  cases k:rd ⟨s',t'⟩ with
  | none =>
   have HS:=zh (eZ k)
   clear h k h1
   go_enter Tryz.func146,Tryz.ntmps146
   go_wp2_with fail
   refine (HR.out _).mono ?_
   rintro e v1 ⟨rfl,hc1⟩
   have BR:=au.later (au.at2 _ _ _ _ _) hc1;have bq:=BR.cell;have bg:=BR.free;have fI:=BR.lt
   have B1:=au.later (au.alloc (au.fZ _ _ _ _) _) hc1;have cB1:=B1.cell;have mh:=B1.free;have lB1:=B1.lt
   go_wp2_with fail
   refine (HS.out _).mono ?_
   rintro e v2 ⟨rfl,hc2⟩
   replace BR:au _ (w.heap.size+1+1) _ _:=au.later aJ hc2;replace bq:=BR.cell;replace bg:=BR.free;replace fI:=BR.lt
   have q1:w.heap.size+1<v2.heap.size:=by omega
   go_wp2_with fail
   refine aP rfl rfl aJ Tryz.underlying125 rfl zk ?_
   exact ⟨rfl,aA⟩
  | some q =>
   have HS:=zh (dR k)
   clear h k h1
   go_enter Tryz.func146,Tryz.ntmps146
   go_wp2_with fail
   refine (HR.out _).mono ?_
   rintro e v1 ⟨rfl,hc1⟩
   have BR:=au.later (au.at2 _ _ _ _ _) hc1;have bq:=BR.cell;have bg:=BR.free;have fI:=BR.lt
   have B1:=au.later (au.alloc (au.fZ _ _ _ _) _) hc1;have cB1:=B1.cell;have mh:=B1.free;have lB1:=B1.lt
   go_wp2_with fail
   refine (HS.out _).mono ?_
   rintro e v2 ⟨v,rfl,hc2,hv⟩
   obtain ⟨xY,O5,yC,xX,OZ,yB,rfl,Hq,qG⟩:=hv;replace Hq:=zh Hq;replace qG:=zh qG
   replace BR:au _ (w.heap.size+1+1) _ _:=au.later aJ hc2;replace bq:=BR.cell;replace bg:=BR.free;replace fI:=BR.lt
   have q1:w.heap.size+1<v2.heap.size:=by omega
   go_wp2_with fail
   refine aP rfl rfl aJ Tryz.underlying125 rfl zk ?_
   exact ⟨rfl,aA⟩
 | some p =>
  have HR:=zh (dR h1)
  cases k:rd ⟨s',t'⟩ with
  | none =>
   have HS:=zh (eZ k)
   clear h k h1
   go_enter Tryz.func146,Tryz.ntmps146
   go_wp2_with fail
   refine (HR.out _).mono ?_
   rintro e v1 ⟨v,rfl,hc1,hv⟩
   obtain ⟨Cw,UF,Dc,Cv,UE,Db,rfl,Hp,nU⟩:=hv;replace Hp:=zh Hp;replace nU:=zh nU
   have BR:=au.later (au.at2 _ _ _ _ _) hc1;have bq:=BR.cell;have bg:=BR.free;have fI:=BR.lt
   have B1:=au.later (au.alloc (au.fZ _ _ _ _) _) hc1;have cB1:=B1.cell;have mh:=B1.free;have lB1:=B1.lt
   go_wp2_with fail
   refine (HS.out _).mono ?_
   rintro e v2 ⟨rfl,hc2⟩
   replace BR:au _ (w.heap.size+1+1) _ _:=au.later aJ hc2;replace bq:=BR.cell;replace bg:=BR.free;replace fI:=BR.lt
   have q1:w.heap.size+1<v2.heap.size:=by omega
   go_wp2_with fail
   refine aP rfl rfl aJ Tryz.underlying125 rfl zk ?_
   exact ⟨rfl,aA⟩
  | some q=>rw [h1,k] at h;simp at h
theorem BP (a b:Fr) (w:World) (ht:pE.Pow w) :
  Calls Tryz.prog 90 #[a.v,b.v] w (fun e w'=>e= .returned (Fr.res (EY a b))∧Below w.heap.size w w'):=by
 obtain ⟨s,t⟩:=a
 obtain ⟨s',t'⟩:=b
 show Calls _ _ #[.agg #[.string s,.string t],.agg #[.string s',.string t']] _ _
 unfold EY
 have HT:=zh ht
 clear ht
 by_cases hbad:rd ⟨s,t⟩=none∨rd ⟨s',t'⟩=none
 ·have e:∀ f,bin f ⟨s,t⟩ ⟨s',t'⟩=(Fr.no,20):=fun f=>by
   rcases hbad with h|h
   ·exact o7 h
   ·exact oZ h
  rw [e]
  have HA:=zh (fun w=>Df s t s' t' w hbad)
  clear hbad e
  go_enter Tryz.func90,Tryz.ntmps90
  go_wp2_with fail
  refine (HA.out _).mono ?_
  rintro e v1 ⟨rfl,hc1⟩
  have BR:=au.later (au.at2 _ _ _ _ _) hc1;have bq:=BR.cell;have bg:=BR.free;have fI:=BR.lt
  go_wp2_with fail
  refine (vG _).mono ?_
  rintro e v2 ⟨rfl,hc2⟩
  replace BR:=au.later (BR) hc2;replace bq:=BR.cell;replace bg:=BR.free;replace fI:=BR.lt
  go_wp2_with fail
  refine aP rfl rfl aJ Tryz.underlying36 rfl zk ?_
  exact ⟨rfl,aA⟩
 ·obtain ⟨p,hp⟩:∃ p,rd ⟨s,t⟩=some p:=Option.ne_none_iff_exists'.1 (fun e=>hbad (.inl e))
  obtain ⟨q,hq⟩:∃ q,rd ⟨s',t'⟩=some q:=Option.ne_none_iff_exists'.1 (fun e=>hbad (.inr e))
  rw [iQ hp hq]
  have KP:=zh (gy (jI hp).2)
  have KQ:=zh (gy (jI hq).2)
  have HA:=zh (fun w=>PU s t s' t' w p q hp hq)
  have KR:Hid (dZ 1000000 (p - q)):=zh (dZ.mono (k:=135) (by rw [Rat.sub_eq_add_neg];exact uf KP.out (qM KQ.out)) zo)
  clear hp hq hbad KP KQ
  obtain ⟨r,Er⟩:∃ y:Rat,Hid (p - q=y):=⟨_,zh rfl⟩
  simp only [Er.out] at KR HA ⊢
  obtain ⟨x,Ex⟩:∃ y:FrI,Hid (wr r=y):=⟨_,zh rfl⟩
  rw [Ex.out]
  obtain ⟨⟨s1,t1⟩,e⟩:=x
  rw [kI]
  go_enter Tryz.func90,Tryz.ntmps90
  go_wp2_with fail
  refine (HA.out _).mono ?_
  rintro e v1 ⟨v,rfl,hc1,hv⟩
  obtain ⟨Ia,Xx,Jj,J7,Zf,Lr,rfl,Hr,yH⟩:=hv;replace Hr:=zh Hr;replace yH:=zh yH
  have BR:=au.later (au.at2 _ _ _ _ _) hc1;have bq:=BR.cell;have bg:=BR.free;have fI:=BR.lt
  go_wp2_with fail
  refine ((xU _ r _ (dU.of aG aG) KR.out (HT.out.later aA)).mono (by rw [Ex.out,kI];exact fun _ _ h=>h)).mono ?_
  rintro e v2 ⟨rfl,hc2⟩
  replace BR:=au.later (BR) hc2;replace bq:=BR.cell;replace bg:=BR.free;replace fI:=BR.lt
  go_wp2_with fail
  refine aP rfl rfl aJ Tryz.underlying36 rfl zk ?_
  exact ⟨rfl,aA⟩
theorem PV (s t s' t':ByteArray) (w:World) (p q:Rat) (h:rd ⟨s,t⟩=some p) (k:rd ⟨s',t'⟩=some q) :
  Calls Tryz.prog 146 #[.agg #[.string s,.string t],.agg #[.string s',.string t'],.func (.func 142) #[] #[]] w (fun e w'=>∃ v,e= .returned (.tuple #[v,.int .i64 0])∧Below w.heap.size w w'∧dU w' v (p*q)):=by
 have HR:=zh (dR h)
 have HS:=zh (dR k)
 have KP:=zh ((gy (jI h).2).mono (show 67≤1000000 by omega))
 have KQ:=zh ((gy (jI k).2).mono (show 67≤1000000 by omega))
 clear h k
 obtain ⟨r,Er⟩:∃ y:Rat,Hid (p*q=y):=⟨_,zh rfl⟩
 rw [Er.out]
 go_enter Tryz.func146,Tryz.ntmps146
 go_wp2_with fail
 refine (HR.out _).mono ?_
 rintro e v1 ⟨v,rfl,hc1,hv⟩
 obtain ⟨Cw,UF,Dc,Cv,UE,Db,rfl,Hp,nU⟩:=hv;replace Hp:=zh Hp;replace nU:=zh nU
 have BR:=au.later (au.at2 _ _ _ _ _) hc1;have bq:=BR.cell;have bg:=BR.free;have fI:=BR.lt
 have B1:=au.later (au.alloc (au.fZ _ _ _ _) _) hc1;have cB1:=B1.cell;have mh:=B1.free;have lB1:=B1.lt
 go_wp2_with fail
 refine (HS.out _).mono ?_
 rintro e v2 ⟨v,rfl,hc2,hv⟩
 obtain ⟨xY,O5,yC,xX,OZ,yB,rfl,Hq,qG⟩:=hv;replace Hq:=zh Hq;replace qG:=zh qG
 replace Hp:=zh (aM.carry Hp.out aG hc2)
 replace nU:=zh (aM.carry nU.out aG hc2)
 replace X1:au _ (v1.heap.size) _ _:=au.later aJ hc2;(try simp only [List.setIfInBounds_toArray,List.set_cons_zero,List.set_cons_succ] at X1);replace eP:=X1.cell;replace fU:=X1.free;replace eO:=X1.lt
 replace BR:au _ (w.heap.size+1+1) _ _:=au.later aJ hc2;(try simp only [List.setIfInBounds_toArray,List.set_cons_zero,List.set_cons_succ] at BR);replace bq:=BR.cell;replace bg:=BR.free;replace fI:=BR.lt
 go_wp2_with fail
 refine ((Ru _ _ p q _ (dU.of aG aG) (dU.of aG aG) KP.out KQ.out).mono (by rw [Er.out];exact fun _ _ h=>h)).mono ?_
 rintro e v3 ⟨v,rfl,hc3,hv⟩
 obtain ⟨Ia,Xx,Jj,J7,Zf,Lr,rfl,Hr,yH⟩:=hv;replace Hr:=zh Hr;replace yH:=zh yH
 replace BR:au _ (w.heap.size+1+1) _ _:=au.later aJ hc3;(try simp only [List.setIfInBounds_toArray,List.set_cons_zero,List.set_cons_succ] at BR);replace bq:=BR.cell;replace bg:=BR.free;replace fI:=BR.lt
 go_wp2_with fail
 refine aP rfl rfl aJ Tryz.underlying125 rfl zk ?_
 exact ⟨_,rfl,aA,dU.of aG aG⟩
theorem Dg (s t s' t':ByteArray) (w:World) (h:rd ⟨s,t⟩=none∨rd ⟨s',t'⟩=none) :
  Calls Tryz.prog 146 #[.agg #[.string s,.string t],.agg #[.string s',.string t'],.func (.func 142) #[] #[]] w (fun e w'=>e= .returned (.tuple #[.agg #[.slice none 0 0,.bool false,.slice none 0 0],.int .i64 20])∧Below w.heap.size w w'):=by
 cases h1:rd ⟨s,t⟩ with
 | none =>
  have HR:=zh (eZ h1)
  cases k:rd ⟨s',t'⟩ with
  | none =>
   have HS:=zh (eZ k)
   clear h k h1
   go_enter Tryz.func146,Tryz.ntmps146
   go_wp2_with fail
   refine (HR.out _).mono ?_
   rintro e v1 ⟨rfl,hc1⟩
   have BR:=au.later (au.at2 _ _ _ _ _) hc1;have bq:=BR.cell;have bg:=BR.free;have fI:=BR.lt
   have B1:=au.later (au.alloc (au.fZ _ _ _ _) _) hc1;have cB1:=B1.cell;have mh:=B1.free;have lB1:=B1.lt
   go_wp2_with fail
   refine (HS.out _).mono ?_
   rintro e v2 ⟨rfl,hc2⟩
   replace BR:au _ (w.heap.size+1+1) _ _:=au.later aJ hc2;replace bq:=BR.cell;replace bg:=BR.free;replace fI:=BR.lt
   have q1:w.heap.size+1<v2.heap.size:=by omega
   go_wp2_with fail
   refine aP rfl rfl aJ Tryz.underlying125 rfl zk ?_
   exact ⟨rfl,aA⟩
  | some q =>
   have HS:=zh (dR k)
   clear h k h1
   go_enter Tryz.func146,Tryz.ntmps146
   go_wp2_with fail
   refine (HR.out _).mono ?_
   rintro e v1 ⟨rfl,hc1⟩
   have BR:=au.later (au.at2 _ _ _ _ _) hc1;have bq:=BR.cell;have bg:=BR.free;have fI:=BR.lt
   have B1:=au.later (au.alloc (au.fZ _ _ _ _) _) hc1;have cB1:=B1.cell;have mh:=B1.free;have lB1:=B1.lt
   go_wp2_with fail
   refine (HS.out _).mono ?_
   rintro e v2 ⟨v,rfl,hc2,hv⟩
   obtain ⟨xY,O5,yC,xX,OZ,yB,rfl,Hq,qG⟩:=hv;replace Hq:=zh Hq;replace qG:=zh qG
   replace BR:au _ (w.heap.size+1+1) _ _:=au.later aJ hc2;replace bq:=BR.cell;replace bg:=BR.free;replace fI:=BR.lt
   have q1:w.heap.size+1<v2.heap.size:=by omega
   go_wp2_with fail
   refine aP rfl rfl aJ Tryz.underlying125 rfl zk ?_
   exact ⟨rfl,aA⟩
 | some p =>
  have HR:=zh (dR h1)
  cases k:rd ⟨s',t'⟩ with
  | none =>
   have HS:=zh (eZ k)
   clear h k h1
   go_enter Tryz.func146,Tryz.ntmps146
   go_wp2_with fail
   refine (HR.out _).mono ?_
   rintro e v1 ⟨v,rfl,hc1,hv⟩
   obtain ⟨Cw,UF,Dc,Cv,UE,Db,rfl,Hp,nU⟩:=hv;replace Hp:=zh Hp;replace nU:=zh nU
   have BR:=au.later (au.at2 _ _ _ _ _) hc1;have bq:=BR.cell;have bg:=BR.free;have fI:=BR.lt
   have B1:=au.later (au.alloc (au.fZ _ _ _ _) _) hc1;have cB1:=B1.cell;have mh:=B1.free;have lB1:=B1.lt
   go_wp2_with fail
   refine (HS.out _).mono ?_
   rintro e v2 ⟨rfl,hc2⟩
   replace BR:au _ (w.heap.size+1+1) _ _:=au.later aJ hc2;replace bq:=BR.cell;replace bg:=BR.free;replace fI:=BR.lt
   have q1:w.heap.size+1<v2.heap.size:=by omega
   go_wp2_with fail
   refine aP rfl rfl aJ Tryz.underlying125 rfl zk ?_
   exact ⟨rfl,aA⟩
  | some q=>rw [h1,k] at h;simp at h
theorem tQ (a b:Fr) (w:World) (ht:pE.Pow w) :
  Calls Tryz.prog 88 #[a.v,b.v] w (fun e w'=>e= .returned (Fr.res (Ik a b))∧Below w.heap.size w w'):=by
 obtain ⟨s,t⟩:=a
 obtain ⟨s',t'⟩:=b
 show Calls _ _ #[.agg #[.string s,.string t],.agg #[.string s',.string t']] _ _
 unfold Ik
 have HT:=zh ht
 clear ht
 by_cases hbad:rd ⟨s,t⟩=none∨rd ⟨s',t'⟩=none
 ·have e:∀ f,bin f ⟨s,t⟩ ⟨s',t'⟩=(Fr.no,20):=fun f=>by
   rcases hbad with h|h
   ·exact o7 h
   ·exact oZ h
  rw [e]
  have HA:=zh (fun w=>Dg s t s' t' w hbad)
  clear hbad e
  go_enter Tryz.func88,Tryz.ntmps88
  go_wp2_with fail
  refine (HA.out _).mono ?_
  rintro e v1 ⟨rfl,hc1⟩
  have BR:=au.later (au.at2 _ _ _ _ _) hc1;have bq:=BR.cell;have bg:=BR.free;have fI:=BR.lt
  go_wp2_with fail
  refine (vG _).mono ?_
  rintro e v2 ⟨rfl,hc2⟩
  replace BR:=au.later (BR) hc2;replace bq:=BR.cell;replace bg:=BR.free;replace fI:=BR.lt
  go_wp2_with fail
  refine aP rfl rfl aJ Tryz.underlying36 rfl zk ?_
  exact ⟨rfl,aA⟩
 ·obtain ⟨p,hp⟩:∃ p,rd ⟨s,t⟩=some p:=Option.ne_none_iff_exists'.1 (fun e=>hbad (.inl e))
  obtain ⟨q,hq⟩:∃ q,rd ⟨s',t'⟩=some q:=Option.ne_none_iff_exists'.1 (fun e=>hbad (.inr e))
  rw [iQ hp hq]
  have KP:=zh (gy (jI hp).2)
  have KQ:=zh (gy (jI hq).2)
  have HA:=zh (fun w=>PV s t s' t' w p q hp hq)
  have KR:Hid (dZ 1000000 (p*q)):=zh (dZ.mono (k:=135) ((qN KP.out KQ.out).mono zo) zo)
  clear hp hq hbad KP KQ
  obtain ⟨r,Er⟩:∃ y:Rat,Hid (p*q=y):=⟨_,zh rfl⟩
  simp only [Er.out] at KR HA ⊢
  obtain ⟨x,Ex⟩:∃ y:FrI,Hid (wr r=y):=⟨_,zh rfl⟩
  rw [Ex.out]
  obtain ⟨⟨s1,t1⟩,e⟩:=x
  rw [kI]
  go_enter Tryz.func88,Tryz.ntmps88
  go_wp2_with fail
  refine (HA.out _).mono ?_
  rintro e v1 ⟨v,rfl,hc1,hv⟩
  obtain ⟨Ia,Xx,Jj,J7,Zf,Lr,rfl,Hr,yH⟩:=hv;replace Hr:=zh Hr;replace yH:=zh yH
  have BR:=au.later (au.at2 _ _ _ _ _) hc1;have bq:=BR.cell;have bg:=BR.free;have fI:=BR.lt
  go_wp2_with fail
  refine ((xU _ r _ (dU.of aG aG) KR.out (HT.out.later aA)).mono (by rw [Ex.out,kI];exact fun _ _ h=>h)).mono ?_
  rintro e v2 ⟨rfl,hc2⟩
  replace BR:=au.later (BR) hc2;replace bq:=BR.cell;replace bg:=BR.free;replace fI:=BR.lt
  go_wp2_with fail
  refine aP rfl rfl aJ Tryz.underlying36 rfl zk ?_
  exact ⟨rfl,aA⟩
theorem Wq (s t s' t':ByteArray) (w:World) (h:rd ⟨s,t⟩=none∨rd ⟨s',t'⟩=none) :
  Calls Tryz.prog 87 #[.agg #[.string s,.string t],.agg #[.string s',.string t']] w (fun e w'=>e= .returned (.tuple #[.agg #[.string ⟨#[]⟩,.string ⟨#[]⟩],.int .i64 20])∧Below w.heap.size w w'):=by
 cases h1:rd ⟨s,t⟩ with
 | none =>
  have HR:=zh (eZ h1)
  cases k:rd ⟨s',t'⟩ with
  | none =>
   have HS:=zh (eZ k)
   clear h k h1
   go_enter Tryz.func87,Tryz.ntmps87
   go_wp2_with fail
   refine (HR.out _).mono ?_
   rintro e v1 ⟨rfl,hc1⟩
   have BR:=au.later (au.at2 _ _ _ _ _) hc1;have bq:=BR.cell;have bg:=BR.free;have fI:=BR.lt
   have B1:=au.later (au.alloc (au.fZ _ _ _ _) _) hc1;have cB1:=B1.cell;have mh:=B1.free;have lB1:=B1.lt
   go_wp2_with fail
   refine (HS.out _).mono ?_
   rintro e v2 ⟨rfl,hc2⟩
   replace BR:au _ (w.heap.size+1+1) _ _:=au.later aJ hc2;(try simp only [List.setIfInBounds_toArray,List.set_cons_zero,List.set_cons_succ] at BR);replace bq:=BR.cell;replace bg:=BR.free;replace fI:=BR.lt
   go_wp2_with fail
   refine aP rfl rfl aJ Tryz.underlying36 rfl zk ?_
   exact ⟨rfl,aA⟩
  | some q =>
   have HS:=zh (dR k)
   clear h k h1
   go_enter Tryz.func87,Tryz.ntmps87
   go_wp2_with fail
   refine (HR.out _).mono ?_
   rintro e v1 ⟨rfl,hc1⟩
   have BR:=au.later (au.at2 _ _ _ _ _) hc1;have bq:=BR.cell;have bg:=BR.free;have fI:=BR.lt
   have B1:=au.later (au.alloc (au.fZ _ _ _ _) _) hc1;have cB1:=B1.cell;have mh:=B1.free;have lB1:=B1.lt
   go_wp2_with fail
   refine (HS.out _).mono ?_
   rintro e v2 ⟨v,rfl,hc2,hv⟩
   obtain ⟨xY,O5,yC,xX,OZ,yB,rfl,Hq,qG⟩:=hv;replace Hq:=zh Hq;replace qG:=zh qG
   replace BR:au _ (w.heap.size+1+1) _ _:=au.later aJ hc2;(try simp only [List.setIfInBounds_toArray,List.set_cons_zero,List.set_cons_succ] at BR);replace bq:=BR.cell;replace bg:=BR.free;replace fI:=BR.lt
   go_wp2_with fail
   refine aP rfl rfl aJ Tryz.underlying36 rfl zk ?_
   exact ⟨rfl,aA⟩
 | some p =>
  have HR:=zh (dR h1)
  cases k:rd ⟨s',t'⟩ with
  | none =>
   have HS:=zh (eZ k)
   clear h k h1
   go_enter Tryz.func87,Tryz.ntmps87
   go_wp2_with fail
   refine (HR.out _).mono ?_
   rintro e v1 ⟨v,rfl,hc1,hv⟩
   obtain ⟨Cw,UF,Dc,Cv,UE,Db,rfl,Hp,nU⟩:=hv;replace Hp:=zh Hp;replace nU:=zh nU
   have BR:=au.later (au.at2 _ _ _ _ _) hc1;have bq:=BR.cell;have bg:=BR.free;have fI:=BR.lt
   have B1:=au.later (au.alloc (au.fZ _ _ _ _) _) hc1;have cB1:=B1.cell;have mh:=B1.free;have lB1:=B1.lt
   go_wp2_with fail
   refine (HS.out _).mono ?_
   rintro e v2 ⟨rfl,hc2⟩
   replace BR:au _ (w.heap.size+1+1) _ _:=au.later aJ hc2;(try simp only [List.setIfInBounds_toArray,List.set_cons_zero,List.set_cons_succ] at BR);replace bq:=BR.cell;replace bg:=BR.free;replace fI:=BR.lt
   go_wp2_with fail
   refine aP rfl rfl aJ Tryz.underlying36 rfl zk ?_
   exact ⟨rfl,aA⟩
  | some q=>rw [h1,k] at h;simp at h
theorem div_zero (s t s' t':ByteArray) (w:World) (p:Rat) (h:rd ⟨s,t⟩=some p) (k:rd ⟨s',t'⟩=some 0) :
  Calls Tryz.prog 87 #[.agg #[.string s,.string t],.agg #[.string s',.string t']] w (fun e w'=>e= .returned (.tuple #[.agg #[.string ⟨#[]⟩,.string ⟨#[]⟩],.int .i64 7])∧Below w.heap.size w w'):=by
 have HR:=zh (dR h)
 have HS:=zh (dR k)
 clear h k
 obtain ⟨n,En⟩:∃ y:Nat,Hid ((0:Rat).num.natAbs=y):=⟨_,zh rfl⟩
 have hz:decide (n=0)=true:=by rw [← En.out];rfl
 have HZ:=zh hz
 clear hz
 go_enter Tryz.func87,Tryz.ntmps87
 go_wp2_with fail
 refine (HR.out _).mono ?_
 rintro e v1 ⟨v,rfl,hc1,hv⟩
 obtain ⟨Cw,UF,Dc,Cv,UE,Db,rfl,Hp,nU⟩:=hv;replace Hp:=zh Hp;replace nU:=zh nU
 have BR:=au.later (au.at2 _ _ _ _ _) hc1;have bq:=BR.cell;have bg:=BR.free;have fI:=BR.lt
 have B1:=au.later (au.alloc (au.fZ _ _ _ _) _) hc1;have cB1:=B1.cell;have mh:=B1.free;have lB1:=B1.lt
 go_wp2_with fail
 refine (HS.out _).mono ?_
 rintro e v2 ⟨v,rfl,hc2,hv⟩
 obtain ⟨xY,O5,yC,xX,OZ,yB,rfl,Hq,qG⟩:=hv;replace Hq:=zh Hq;replace qG:=zh qG
 replace BR:au _ (w.heap.size+1+1) _ _:=au.later aJ hc2;(try simp only [List.setIfInBounds_toArray,List.set_cons_zero,List.set_cons_succ] at BR);replace bq:=BR.cell;replace bg:=BR.free;replace fI:=BR.lt
 go_wp2_with fail
 rw [En.out] at Hq
 refine (gP _ n _ aG).mono ?_
 rintro e v5 ⟨rfl,rfl⟩
 rw [HZ.out]
 go_wp2_with fail
 refine aP rfl rfl aJ Tryz.underlying36 rfl zk ?_
 exact ⟨rfl,aA⟩
theorem Tn (s t s' t':ByteArray) (w:World) (p q:Rat) (h:rd ⟨s,t⟩=some p) (k:rd ⟨s',t'⟩=some q) (h0:q≠0) (ht:pE.Pow w) :
  Calls Tryz.prog 87 #[.agg #[.string s,.string t],.agg #[.string s',.string t']] w (fun e w'=>e= .returned (Fr.res (wr (p / q)))∧Below w.heap.size w w'):=by
 have HR:=zh (dR h)
 have HS:=zh (dR k)
 have kp:=gy (jI h).2
 have kq:=gy (jI k).2
 have ki:=EN kq h0
 have hz:decide (q.num.natAbs=0)=false:=by
  simp [h0]
 have HZ:=zh hz
 have HQ0:=zh h0
 have HT:=zh ht
 rw [Rat.div_def]
 have km:=qN kp ki
 obtain ⟨i,Ei⟩:∃ y:Rat,Hid (q⁻¹=y):=⟨_,zh rfl⟩
 rw [Ei.out] at km ki ⊢
 obtain ⟨r,Er⟩:∃ y:Rat,Hid (p*i=y):=⟨_,zh rfl⟩
 rw [Er.out] at km ⊢
 have KP:=zh (kp.mono (show 67≤1000000 by omega))
 have KI:=zh (ki.mono (show 67≤1000000 by omega))
 have KR:=zh (km.mono (show 2*67≤1000000 by omega))
 obtain ⟨x,Ex⟩:∃ y:FrI,Hid (wr r=y):=⟨_,zh rfl⟩
 rw [Ex.out]
 obtain ⟨⟨s1,t1⟩,e⟩:=x
 rw [kI]
 clear h k kp kq ki hz h0 ht km
 go_enter Tryz.func87,Tryz.ntmps87
 go_wp2_with fail
 refine (HR.out _).mono ?_
 rintro e v1 ⟨v,rfl,hc1,hv⟩
 obtain ⟨Cw,UF,Dc,Cv,UE,Db,rfl,Hp,nU⟩:=hv;replace Hp:=zh Hp;replace nU:=zh nU
 have BR:=au.later (au.at2 _ _ _ _ _) hc1;have bq:=BR.cell;have bg:=BR.free;have fI:=BR.lt
 have B1:=au.later (au.alloc (au.fZ _ _ _ _) _) hc1;have cB1:=B1.cell;have mh:=B1.free;have lB1:=B1.lt
 go_wp2_with fail
 refine (HS.out _).mono ?_
 rintro e v2 ⟨v,rfl,hc2,hv⟩
 obtain ⟨xY,O5,yC,xX,OZ,yB,rfl,Hq,qG⟩:=hv;replace Hq:=zh Hq;replace qG:=zh qG
 replace Hp:=zh (aM.carry Hp.out aG hc2)
 replace nU:=zh (aM.carry nU.out aG hc2)
 replace X1:au _ (v1.heap.size) _ _:=au.later aJ hc2;(try simp only [List.setIfInBounds_toArray,List.set_cons_zero,List.set_cons_succ] at X1);replace eP:=X1.cell;replace fU:=X1.free;replace eO:=X1.lt
 replace BR:au _ (w.heap.size+1+1) _ _:=au.later aJ hc2;(try simp only [List.setIfInBounds_toArray,List.set_cons_zero,List.set_cons_succ] at BR);replace bq:=BR.cell;replace bg:=BR.free;replace fI:=BR.lt
 go_wp2_with fail
 refine (gP _ q.num.natAbs _ aG).mono ?_
 rintro e v5 ⟨rfl,rfl⟩
 rw [HZ.out]
 go_wp2_with fail
 refine aC [(.read,0),(.read,1),(.ext,2),(.ext,3),(.ext,4),(.pure,5),(.pure,6),(.fin,7),(.fin,8)] zk zk zR zP ?_
 repeat (first|(refine ah rfl rfl fun J h=>?_;go_simp;refine h _ ?_;clear h J)|(refine aB rfl rfl rfl rfl fun J h=>?_;go_simp;refine h _ ?_;clear h J;try go_simp))
 refine aD rfl rfl (fun w3 hb3 J hJ=>?_);go_simp
 replace Hp:=zh (aM.carry Hp.out aG hb3)
 replace nU:=zh (aM.carry nU.out aG hb3)
 replace BR:au _ (w.heap.size+1+1) _ _:=au.later aJ hb3;(try simp only [List.setIfInBounds_toArray,List.set_cons_zero,List.set_cons_succ] at BR);replace bq:=BR.cell;replace bg:=BR.free;replace fI:=BR.lt
 refine ((KE _ q _ (dU.of aG aG) HQ0.out).mono (by rw [Ei.out];exact fun _ _ h=>h)).mono ?_
 rintro e v3 ⟨v,rfl,hc3,hv⟩
 obtain ⟨aB8,lHv,aH2,aP3,mHv,aV4,rfl,Hv,Hvd⟩:=hv;replace Hv:=zh Hv;replace Hvd:=zh Hvd
 replace Hp:=zh (aM.later Hp.out hc3)
 replace nU:=zh (aM.later nU.out hc3)
 replace BR:=au.later (BR) hc3;replace bq:=BR.cell;replace bg:=BR.free;replace fI:=BR.lt
 refine hJ _ _ hc3 ?_
 clear hJ J
 refine aD rfl rfl (fun w4 hb4 J hJ=>?_);go_simp
 replace Hp:=zh (aM.later Hp.out hb4)
 replace nU:=zh (aM.later nU.out hb4)
 replace Hv:=zh (aM.later Hv.out hb4)
 replace Hvd:=zh (aM.later Hvd.out hb4)
 replace BR:=au.later (BR) hb4;replace bq:=BR.cell;replace bg:=BR.free;replace fI:=BR.lt
 refine ((Ru _ _ p i _ (dU.of aG aG) (dU.of aG aG) KP.out KI.out).mono (by rw [Er.out];exact fun _ _ h=>h)).mono ?_
 rintro e v4 ⟨v,rfl,hc4,hv⟩
 obtain ⟨Ia,Xx,Jj,J7,Zf,Lr,rfl,Hr,yH⟩:=hv;replace Hr:=zh Hr;replace yH:=zh yH
 replace Hp:=zh (aM.later Hp.out hc4)
 replace nU:=zh (aM.later nU.out hc4)
 replace Hv:=zh (aM.later Hv.out hc4)
 replace Hvd:=zh (aM.later Hvd.out hc4)
 replace BR:=au.later (BR) hc4;replace bq:=BR.cell;replace bg:=BR.free;replace fI:=BR.lt
 refine hJ _ _ hc4 ?_
 clear hJ J
 refine aD rfl rfl (fun w5 hb5 J hJ=>?_);go_simp
 replace Hr:=zh (aM.later Hr.out hb5)
 replace yH:=zh (aM.later yH.out hb5)
 replace BR:=au.later (BR) hb5;replace bq:=BR.cell;replace bg:=BR.free;replace fI:=BR.lt
 refine ((jO _ r _ (dU.of aG aG) KR.out (HT.out.later aA)).mono (by rw [Ex.out,kI];exact fun _ _ h=>h)).mono ?_
 rintro e v5 ⟨rfl,kP⟩
 replace Hr:=zh (aM.later Hr.out kP)
 replace yH:=zh (aM.later yH.out kP)
 replace BR:=au.later (BR) kP;replace bq:=BR.cell;replace bg:=BR.free;replace fI:=BR.lt
 refine hJ _ _ kP ?_
 clear hJ J
 repeat (first|(refine ah rfl rfl fun J h=>?_;go_simp;refine h _ ?_;clear h J)|(refine aB rfl rfl rfl rfl fun J h=>?_;go_simp;refine h _ ?_;clear h J;try go_simp))
 refine aI [_,_] rfl (fun w9 gX=>?_)
 replace BR:=au.later (BR) gX;replace bq:=BR.cell;replace bg:=BR.free;replace fI:=BR.lt
 go_wp2_with fail
 refine aP rfl rfl aJ Tryz.underlying36 rfl zk ?_
 exact ⟨rfl,aA⟩
theorem Cc (a b:Fr) (w:World) (ht:pE.Pow w) :
  Calls Tryz.prog 87 #[a.v,b.v] w (fun e w'=>e= .returned (Fr.res (zA a b))∧Below w.heap.size w w'):=by
 obtain ⟨s,t⟩:=a
 obtain ⟨s',t'⟩:=b
 show Calls _ _ #[.agg #[.string s,.string t],.agg #[.string s',.string t']] _ _
 unfold zA
 by_cases hbad:rd ⟨s,t⟩=none∨rd ⟨s',t'⟩=none
 ·have e:∀ f,bin f ⟨s,t⟩ ⟨s',t'⟩=(Fr.no,20):=fun f=>by
   rcases hbad with h|h
   ·exact o7 h
   ·exact oZ h
  rw [e]
  exact Wq s t s' t' w hbad
 ·obtain ⟨p,hp⟩:∃ p,rd ⟨s,t⟩=some p:=Option.ne_none_iff_exists'.1 (fun e=>hbad (.inl e))
  obtain ⟨q,hq⟩:∃ q,rd ⟨s',t'⟩=some q:=Option.ne_none_iff_exists'.1 (fun e=>hbad (.inr e))
  rw [iQ hp hq]
  by_cases h0:q=0
  ·rw [if_pos h0]
   subst h0
   exact div_zero s t s' t' w p hp hq
  ·rw [if_neg h0]
   exact Tn s t s' t' w p q hp hq h0 ht
theorem WK (n d:Int) (hl1:(Lib.decDigits n.natAbs).length≤600) (hl2:(Lib.decDigits d.natAbs).length≤600) (w:World) (ht:pE.Pow w) :
  Calls Tryz.prog 118 #[.string ⟨(Lib.itoa n).toArray⟩,.string ⟨(Lib.itoa d).toArray⟩] w (fun e w'=>e= .returned (Fr.res (yR n d))∧Below w.heap.size w w'):=by
 have HC:=zh (jG (s:=⟨(Lib.itoa n).toArray⟩) (dP hl1))
 have HD:=zh (jG (s:=⟨(Lib.itoa d).toArray⟩) (dP hl2))
 have UN:=zh hl1
 have HL2:=zh hl2
 have S1:=vI (eX.2 hl1)
 have S2:=vI (eX.2 hl2)
 have HT:=zh ht
 clear ht hl1 hl2
 by_cases h0:d=0
 ·have e:Fr.res (yR n d)= .tuple #[.agg #[.string ⟨#[]⟩,.string ⟨#[]⟩],.int .i64 7]:=by unfold yR;rw [if_pos h0];rfl
  rw [e]
  have hz:decide (d.natAbs=0)=true:=by simp;omega
  have HZ:=zh hz
  clear e h0 hz S1 S2
  go_enter Tryz.func118,Tryz.ntmps118
  go_wp2_with fail
  refine (HC.out _).mono ?_
  rintro e v1 ⟨rfl,hc1⟩
  have BR:=au.later (au.new _ _ _) hc1;have bq:=BR.cell;have bg:=BR.free;have fI:=BR.lt
  go_wp2_with fail
  refine (HD.out _).mono ?_
  rintro e v2 ⟨rfl,hc2⟩
  replace BR:=au.later (BR) hc2;replace bq:=BR.cell;replace bg:=BR.free;replace fI:=BR.lt
  go_wp2_with fail
  refine (fA n UN.out _).mono ?_
  rintro e v3 ⟨v,rfl,hc3,hv⟩
  obtain ⟨Kh,Zm,Ls,rfl,HN⟩:=hv;replace HN:=zh HN
  replace BR:=au.later (BR) hc3;replace bq:=BR.cell;replace bg:=BR.free;replace fI:=BR.lt
  go_wp2_with fail
  refine (fA d HL2.out _).mono ?_
  rintro e v4 ⟨v,rfl,hc4,hv⟩
  obtain ⟨OI,lHM,PN,rfl,HM⟩:=hv;replace HM:=zh HM
  replace BR:=au.later (BR) hc4;replace bq:=BR.cell;replace bg:=BR.free;replace fI:=BR.lt
  go_wp2_with fail
  refine (gP _ d.natAbs _ aG).mono ?_
  rintro e v5 ⟨rfl,rfl⟩
  rw [HZ.out]
  go_wp2_with fail
  refine aP rfl rfl aJ Tryz.underlying36 rfl zk ?_
  exact ⟨rfl,aA⟩
 ·have e:yR n d=wr (mkRat (jg n.natAbs (!(decide (n<0) == decide (d<0)))) d.natAbs):=by unfold yR;rw [if_neg h0,MU n d h0]
  rw [e]
  have hz:decide (d.natAbs=0)=false:=by simp;omega
  have HZ:=zh hz
  have hdp:0<d.natAbs:=by omega
  have HDP:=zh hdp
  obtain ⟨f,Ef⟩:∃ y:Bool,Hid (Bool.not (decide (n<0) == decide (d<0))=y):=⟨_,zh rfl⟩
  obtain ⟨s,Es⟩:∃ y:Int,Hid (jg n.natAbs f=y):=⟨_,zh rfl⟩
  rw [Ef.out,Es.out]
  have hs:sz 1000000000 s.natAbs≤67:=by rw [← Es.out,jr];exact S1
  have KS:=zh (Nat.le_trans hs (show 67≤549755813888 by omega))
  have KD:=zh (Nat.le_trans S2 (show 67≤549755813888 by omega))
  have KQ:Hid (dZ 1000000 (mkRat s d.natAbs)):=by
   have hp:=wG s hdp
   refine zh ⟨?_,?_⟩
   ·rw [hp.1,jr]
    exact Nat.le_trans fO zo
   ·rw [hp.2]
    exact Nat.le_trans fO zo
  obtain ⟨q,Eq⟩:∃ y:Rat,Hid (mkRat s d.natAbs=y):=⟨_,zh rfl⟩
  rw [Eq.out] at KQ ⊢
  obtain ⟨x,Ex⟩:∃ y:FrI,Hid (wr q=y):=⟨_,zh rfl⟩
  rw [Ex.out]
  clear e
  obtain ⟨⟨s1,t1⟩,e⟩:=x
  rw [kI]
  clear h0 hz hdp hs S1 S2
  go_enter Tryz.func118,Tryz.ntmps118
  go_wp2_with fail
  refine (HC.out _).mono ?_
  rintro e v1 ⟨rfl,hc1⟩
  have BR:=au.later (au.new _ _ _) hc1;have bq:=BR.cell;have bg:=BR.free;have fI:=BR.lt
  go_wp2_with fail
  refine (HD.out _).mono ?_
  rintro e v2 ⟨rfl,hc2⟩
  replace BR:=au.later (BR) hc2;replace bq:=BR.cell;replace bg:=BR.free;replace fI:=BR.lt
  go_wp2_with fail
  refine (fA n UN.out _).mono ?_
  rintro e v3 ⟨v,rfl,hc3,hv⟩
  obtain ⟨Kh,Zm,Ls,rfl,HN⟩:=hv;replace HN:=zh HN
  replace BR:=au.later (BR) hc3;replace bq:=BR.cell;replace bg:=BR.free;replace fI:=BR.lt
  go_wp2_with fail
  refine (fA d HL2.out _).mono ?_
  rintro e v4 ⟨v,rfl,hc4,hv⟩
  obtain ⟨OI,lHM,PN,rfl,HM⟩:=hv;replace HM:=zh HM
  replace HN:=zh (aM.later HN.out hc4)
  replace BR:=au.later (BR) hc4;replace bq:=BR.cell;replace bg:=BR.free;replace fI:=BR.lt
  go_wp2_with fail
  refine (gP _ d.natAbs _ aG).mono ?_
  rintro e v5 ⟨rfl,rfl⟩
  rw [HZ.out]
  go_wp2_with fail
  refine aC [(.pure,0),(.read,1),(.pure,2),(.read,3),(.pure,4),(.read,5),(.pure,6),(.pure,8),(.read,9),(.ext,7),(.ext,10),(.ext,11),(.pure,12),(.pure,13),(.fin,14),(.fin,15)] zk zk zR zP ?_
  repeat (first|(refine ah rfl rfl fun J h=>?_;go_simp;refine h _ ?_;clear h J)|(refine aB rfl rfl rfl rfl fun J h=>?_;go_simp;refine h _ ?_;clear h J;try go_simp))
  refine aD rfl rfl (fun w6 hb6 J hJ=>?_);go_simp
  replace HM:=zh (aM.carry HM.out aG hb6)
  replace BR:au _ (w.heap.size) _ _:=au.later aJ hb6;(try simp only [List.setIfInBounds_toArray,List.set_cons_zero,List.set_cons_succ] at BR);replace bq:=BR.cell;replace bg:=BR.free;replace fI:=BR.lt
  refine ((dV _ n.natAbs _ _ aG).mono (by rw [show (Bool.not (decide (n<0) == decide (d<0)))=f from Ef.out,Es.out];exact fun _ _ h=>h)).mono ?_
  rintro e v6 ⟨v,rfl,hc6,hv⟩
  obtain ⟨OH,lHs,PK,rfl,Hs⟩:=hv;replace Hs:=zh Hs
  replace HM:=zh (aM.later HM.out hc6)
  replace BR:=au.later (BR) hc6;replace bq:=BR.cell;replace bg:=BR.free;replace fI:=BR.lt
  refine hJ _ _ hc6 ?_
  clear hJ J
  refine aD rfl rfl (fun w7 dQ J hJ=>?_);go_simp
  replace HM:=zh (aM.later HM.out dQ)
  replace Hs:=zh (aM.later Hs.out dQ)
  replace BR:=au.later (BR) dQ;replace bq:=BR.cell;replace bg:=BR.free;replace fI:=BR.lt
  refine ((J2 _ _ s d.natAbs _ (aX.aV aG) aG HDP.out KS.out KD.out).mono (by rw [Eq.out];exact fun _ _ h=>h)).mono ?_
  rintro e v7 ⟨v,rfl,Ci,hv⟩
  obtain ⟨xY,O5,yC,xX,OZ,yB,rfl,Hq,qG⟩:=hv;replace Hq:=zh Hq;replace qG:=zh qG
  replace HM:=zh (aM.later HM.out Ci)
  replace Hs:=zh (aM.later Hs.out Ci)
  replace BR:=au.later (BR) Ci;replace bq:=BR.cell;replace bg:=BR.free;replace fI:=BR.lt
  refine hJ _ _ Ci ?_
  clear hJ J
  refine aD rfl rfl (fun w8 kD J hJ=>?_);go_simp
  replace BR:=au.later (BR) kD;replace bq:=BR.cell;replace bg:=BR.free;replace fI:=BR.lt
  refine ((jO _ q _ (dU.of aG aG) KQ.out (HT.out.later aA)).mono (by rw [Ex.out,kI];exact fun _ _ h=>h)).mono ?_
  rintro e v8 ⟨rfl,hc8⟩
  replace BR:=au.later (BR) hc8;replace bq:=BR.cell;replace bg:=BR.free;replace fI:=BR.lt
  refine hJ _ _ hc8 ?_
  clear hJ J
  repeat (first|(refine ah rfl rfl fun J h=>?_;go_simp;refine h _ ?_;clear h J)|(refine aB rfl rfl rfl rfl fun J h=>?_;go_simp;refine h _ ?_;clear h J;try go_simp))
  refine aI [_,_] rfl (fun w9 gX=>?_)
  replace BR:=au.later (BR) gX;replace bq:=BR.cell;replace bg:=BR.free;replace fI:=BR.lt
  go_wp2_with fail
  refine aP rfl rfl aJ Tryz.underlying36 rfl zk ?_
  exact ⟨rfl,aA⟩
theorem Nc (z:Int) (h0: -9223372036854775808≤z) (h1:z≤9223372036854775807):(Lib.decDigits z.natAbs).length≤600 :=
 Nat.le_trans (j3 19 z.natAbs zo zo) zo
theorem tO (n d:Int) (n0: -9223372036854775808≤n) (n1:n≤9223372036854775807) (d0: -9223372036854775808≤d) (d1:d≤9223372036854775807) (w:World) (ht:pE.Pow w) :
  Calls Tryz.prog 56 #[.int .i64 n,.int .i64 d] w (fun e w'=>e= .returned (Fr.res (yR n d))∧Below w.heap.size w w'):=by
 have H1:=zh (fun w ht=>whole.AO n n0 n1 w ht)
 have H2:=zh (fun w ht=>whole.AO d d0 d1 w ht)
 have H3:=zh (fun w ht=>WK n d (Nc n n0 n1) (Nc d d0 d1) w ht)
 have HT:=zh ht
 clear ht n0 n1 d0 d1
 obtain ⟨x,Ex⟩:∃ y:FrI,Hid (yR n d=y):=⟨_,zh rfl⟩
 rw [Ex.out]
 obtain ⟨⟨s1,t1⟩,e⟩:=x
 rw [kI]
 go_enter Tryz.func56,Tryz.ntmps56
 go_wp2_with fail
 refine ((H1.out _ (HT.out.later aA)).mono (fun _ _ h=>by unfold sO at h;exact h)).mono ?_
 rintro e v1 ⟨rfl,hc1⟩
 have BR:=au.later (au.new _ _ _) hc1;have bq:=BR.cell;have bg:=BR.free;have fI:=BR.lt
 go_wp2_with fail
 refine ((H2.out _ (HT.out.later aA)).mono (fun _ _ h=>by unfold sO at h;exact h)).mono ?_
 rintro e v2 ⟨rfl,hc2⟩
 replace BR:=au.later (BR) hc2;replace bq:=BR.cell;replace bg:=BR.free;replace fI:=BR.lt
 go_wp2_with fail
 refine ((H3.out _ (HT.out.later aA)).mono (by rw [Ex.out,kI];exact fun _ _ h=>h)).mono ?_
 rintro e v3 ⟨rfl,hc3⟩
 replace BR:=au.later (BR) hc3;replace bq:=BR.cell;replace bg:=BR.free;replace fI:=BR.lt
 go_wp2_with fail
 refine aP rfl rfl aJ Tryz.underlying36 rfl zk ?_
 exact ⟨rfl,aA⟩
end Go.Proofs.dG
