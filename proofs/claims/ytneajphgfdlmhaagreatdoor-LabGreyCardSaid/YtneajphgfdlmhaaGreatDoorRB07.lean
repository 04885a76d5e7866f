/- Lemmas for the proof. No condition. -/
import Derived.Test.YtneajphgfdlmhaaGreatDoorRB01
import Derived.Test.YtneajphgfdlmhaaGreatDoorRB02
import Derived.Test.YtneajphgfdlmhaaGreatDoorRB03
import Derived.Test.YtneajphgfdlmhaaGreatDoorRB05
import Derived.Test.YtneajphgfdlmhaaGreatDoorRB06
import Derived.Test.YtneajphgfdlmhaaGreatDoorProg
import Derived.KernelRfl
import Derived.Deep.QuietTactic
import Derived.BigQuiet
import Derived.WalkSmall
import Derived.Deep.DeepCutAuto
import Derived.Deep.CutBlock
import Derived.Laws.CopyOwn
set_option linter.unusedVariables false
set_option linter.unusedSimpArgs false
set_option maxRecDepth 100000
set_option maxHeartbeats 16000000
namespace Go.Proofs.fM
open Go Go.RowKit Go.SW Go.Num Go.Mem Go.Proofs Go.Dec Go.jQ
theorem af8 (x y:Value) (p q:Rat) (w:World) (hx:jc w x p) (hy:jc w y q) (kp:wG 1000000 p) (kq:wG 1000000 q) :
  Calls Tryz.prog 239 #[x,y] w (fun e w'=>∃ v,e= .returned v∧Below w.heap.size w w'∧jc w' v (p+q)):=by
 obtain ⟨Po,lH,Qp,pbH,mH,cbH,rfl,H,Hd⟩:=hx;replace H:=zh H;replace Hd:=zh Hd;obtain ⟨paG,lG,caG,pbG,mG,cbG,rfl,G,Gd⟩:=hy;replace G:=zh G;replace Gd:=zh Gd;have HP:=zh (Ul p q);have hp:=p.den_pos;have hq:=q.den_pos;have hg:0<p.den.gcd q.den:=Nat.gcd_pos_of_pos_right _ hq;have k1:= @mZ q.den (p.den.gcd q.den);have k2:= @mZ p.den (p.den.gcd q.den);have k3:=Mw (a:=p.den) hq;obtain ⟨kp1,kp2⟩:=kp;obtain ⟨kq1,kq2⟩:=kq;obtain ⟨g,Eg⟩:∃ y:Nat,Hid (p.den.gcd q.den=y):=⟨_,zh rfl⟩;rw [Eg.out] at hg HP k1 k2 k3;obtain ⟨l,El⟩:∃ y:Nat,Hid (q.den / g=y):=⟨_,zh rfl⟩;rw [El.out] at HP k1;obtain ⟨r,Er⟩:∃ y:Nat,Hid (p.den / g=y):=⟨_,zh rfl⟩;rw [Er.out] at HP k2;have k4:=rJ p.num l;have k5:=rJ q.num r;obtain ⟨s,Es⟩:∃ y:Int,Hid (p.num*(l:Int)=y):=⟨_,zh rfl⟩;rw [Es.out] at HP k4;obtain ⟨t,Et⟩:∃ y:Int,Hid (q.num*(r:Int)=y):=⟨_,zh rfl⟩;rw [Et.out] at HP k5
 have k6:=KJ s t;obtain ⟨u,Eu⟩:∃ y:Int,Hid (s+t=y):=⟨_,zh rfl⟩;rw [Eu.out] at HP k6;have hh:0<u.natAbs.gcd g:=Nat.gcd_pos_of_pos_right _ hg;obtain ⟨h,Eh⟩:∃ y:Nat,Hid (u.natAbs.gcd g=y):=⟨_,zh rfl⟩;rw [Eh.out] at HP hh;obtain ⟨m,Em⟩:∃ y:Nat,Hid (u.natAbs / h=y):=⟨_,zh rfl⟩;rw [Em.out] at HP;obtain ⟨c,Ec⟩:∃ y:Nat,Hid (q.den / h=y):=⟨_,zh rfl⟩;rw [Ec.out] at HP;have k7:sz 1000000000 c≤sz 1000000000 q.den:=by rw [← Ec.out];exact mZ
 obtain ⟨d,Ed⟩:∃ y:Nat,Hid (r*c=y):=⟨_,zh rfl⟩;rw [Ed.out] at HP;have HG:=zh hg;have HH:=zh hh;have Kpn:Hid (sz 1000000000 p.num.natAbs≤549755813888):=by unfold Hid;omega
 have Kqn:Hid (sz 1000000000 q.num.natAbs≤549755813888):=by unfold Hid;omega
 have Kpd:Hid (sz 1000000000 p.den≤549755813888):=by unfold Hid;omega
 have Kqd:Hid (sz 1000000000 q.den≤549755813888):=by unfold Hid;omega
 have Kg:Hid (sz 1000000000 g≤549755813888):=by unfold Hid;omega
 have Kl:Hid (sz 1000000000 l≤549755813888):=by unfold Hid;omega
 have Kr:Hid (sz 1000000000 r≤549755813888):=by unfold Hid;omega
 have Ks:Hid (sz 1000000000 s.natAbs≤549755813888):=by unfold Hid;omega
 have Kt:Hid (sz 1000000000 t.natAbs≤549755813888):=by unfold Hid;omega
 have Ku:Hid (sz 1000000000 u.natAbs≤549755813888):=by unfold Hid;omega
 have Kc:Hid (sz 1000000000 c≤549755813888):=by unfold Hid;omega
 clear k1 k2 k3 k4 k5 k6 k7 kp1 kp2 kq1 kq2 hg hh hp hq;go_enter Tryz.func239,Tryz.ntmps239
 go_wp2_with fail
 refine ((wQ _ _ p.den q.den _ aI aI Kpd.out Kqd.out).mono (by rw [Eg.out];exact fun _ _ h=>h)).mono ?_;rintro e v1 ⟨v,rfl,hc1,hv⟩;obtain ⟨bo7,lHg,bt6,rfl⟩:=hv.slice;have Hg:=zh hv;clear hv;have BR:=ah.later (ah.at2 _ _ _ _ _) hc1;have bQ:=BR.cell;have bL:=BR.free;have B1:=ah.later (ah.alloc (ah.qN _ _ _ _) _) hc1;have cB1:=B1.cell;have uG:=B1.free;have B0:=ah.later (ah.alloc (ah.alloc (ah.new _ _ _) _) _) hc1;have cB0:=B0.cell;have nE:=B0.free;go_wp2_with fail
 refine ((ji _ _ q.den g _ aI aI HG.out Kqd.out).mono (by rw [El.out];exact fun _ _ h=>h)).mono ?_;rintro e v2 ⟨v,vr,rfl,hc2,hv,sH⟩;obtain ⟨bK7,lHl,bQ2,rfl⟩:=hv.slice;have Hl:=zh hv;clear hv;obtain ⟨bA4,bM5,bD7,rfl⟩:=sH.slice;have Hlr:=zh sH;clear sH;replace BR:=ah.later (BR) hc2;replace bQ:=BR.cell;replace bL:=BR.free;replace B1:=ah.later (B1) hc2;replace cB1:=B1.cell;replace uG:=B1.free;replace B0:=ah.later (B0) hc2;replace cB0:=B0.cell;replace nE:=B0.free;go_wp2_with fail
 refine ((ji _ _ p.den g _ aI aI HG.out Kpd.out).mono (by rw [Er.out];exact fun _ _ h=>h)).mono ?_;rintro e v3 ⟨v,vr,rfl,hc3,hv,sH⟩;obtain ⟨Na,lHr,NH,rfl⟩:=hv.slice;have Hr:=zh hv;clear hv;obtain ⟨bA2,bM3,bD5,rfl⟩:=sH.slice;have Hrr:=zh sH;clear sH;replace BR:=ah.later (BR) hc3;replace bQ:=BR.cell;replace bL:=BR.free;replace B1:=ah.later (B1) hc3;replace cB1:=B1.cell;replace uG:=B1.free;replace B0:=ah.later (B0) hc3;replace cB0:=B0.cell;replace nE:=B0.free;go_wp2_with fail
 refine aC [(.pure,0),(.read,1),(.pure,2),(.pure,4),(.read,5),(.pure,6),(.ext,3),(.ext,7),(.ext,8),(.alloc #[.slice none 0 0,.bool false] 106,9),(.fin,10)] zk zk zR zP ?_;refine zV ?_;refine aL rfl rfl (fun w4 hb4 J hJ=>?_);go_simp;replace BR:=ah.later (ah.drew BR) hb4;replace bQ:=BR.cell;replace bL:=BR.free;replace B1:=ah.later (ah.drew B1) hb4;replace cB1:=B1.cell;replace uG:=B1.free;replace B0:=ah.later (ah.drew B0) hb4;replace cB0:=B0.cell;replace nE:=B0.free;refine ((uL _ _ p.num l _ (gN.iL aI) aI Kpn.out Kl.out).mono (by rw [Es.out];exact fun _ _ h=>h)).mono ?_;rintro e v4 ⟨v,rfl,hc4,hv⟩;obtain ⟨JI,lHs,JZ,rfl,Hs⟩:=hv;replace Hs:=zh Hs;replace BR:=ah.later (BR) hc4;replace bQ:=BR.cell;replace bL:=BR.free;replace B1:=ah.later (B1) hc4;replace cB1:=B1.cell;replace uG:=B1.free
 replace B0:=ah.later (B0) hc4;replace cB0:=B0.cell;replace nE:=B0.free;refine hJ _ _ hc4 ?_;clear hJ J;refine aL rfl rfl (fun w5 hb5 J hJ=>?_);go_simp;replace BR:=ah.later (BR) hb5;replace bQ:=BR.cell;replace bL:=BR.free;replace B1:=ah.later (B1) hb5;replace cB1:=B1.cell;replace uG:=B1.free;replace B0:=ah.later (B0) hb5;replace cB0:=B0.cell;replace nE:=B0.free;refine ((uL _ _ q.num r _ (gN.iL aI) aI Kqn.out Kr.out).mono (by rw [Et.out];exact fun _ _ h=>h)).mono ?_;rintro e v5 ⟨v,rfl,rE,hv⟩;obtain ⟨bK4,lHt,bP9,rfl,Ht⟩:=hv;replace Ht:=zh Ht;replace BR:=ah.later (BR) rE;replace bQ:=BR.cell;replace bL:=BR.free;replace B1:=ah.later (B1) rE;replace cB1:=B1.cell;replace uG:=B1.free;replace B0:=ah.later (B0) rE;replace cB0:=B0.cell;replace nE:=B0.free;refine hJ _ _ rE ?_;clear hJ J;refine aL rfl rfl (fun w6 hb6 J hJ=>?_);go_simp
 replace BR:=ah.later (BR) hb6;replace bQ:=BR.cell;replace bL:=BR.free;replace B1:=ah.later (B1) hb6;replace cB1:=B1.cell;replace uG:=B1.free;replace B0:=ah.later (B0) hb6;replace cB0:=B0.cell;replace nE:=B0.free;refine ((Bj _ _ s t _ (gN.iL aI) (gN.iL aI) Ks.out Kt.out).mono (by rw [Eu.out];exact fun _ _ h=>h)).mono ?_;rintro e v6 ⟨v,rfl,hc6,hv⟩;obtain ⟨bK3,lHu,bP8,rfl,Hu⟩:=hv;replace Hu:=zh Hu;replace BR:=ah.later (BR) hc6;replace bQ:=BR.cell;replace bL:=BR.free;replace B1:=ah.later (B1) hc6;replace cB1:=B1.cell;replace uG:=B1.free;replace B0:=ah.later (B0) hc6;replace cB0:=B0.cell;replace nE:=B0.free;refine hJ _ _ hc6 ?_;clear hJ J;refine jK rfl (fun b1 w7 hw7 TF ac0 aE3 gL=>?_);go_simp;replace gL:ah _ _ _ _:=gL;have aE1:w.heap.size≤b1:=(by first|omega|exact Nat.le_trans (Below.size (B:=w.heap.size) au) TF)
 replace BR:=ah.later (BR) hw7;replace bQ:=BR.cell;replace bL:=BR.free;replace B1:=ah.later (B1) hw7;replace cB1:=B1.cell;replace uG:=B1.free;replace B0:=ah.later (B0) hw7;replace cB0:=B0.cell;replace nE:=B0.free;refine dK [_] rfl (fun w8 Bd=>?_);replace BR:=ah.later (BR) Bd;replace bQ:=BR.cell;replace bL:=BR.free;replace B1:=ah.later (B1) Bd;replace cB1:=B1.cell;replace uG:=B1.free;replace B0:=ah.later (B0) Bd;replace cB0:=B0.cell;replace nE:=B0.free;replace gL:=ah.later (gL) Bd;replace sK:=gL.cell;replace sI:=gL.free;have n0:=B0.ne gL zd;have n1:=B1.ne gL zd;have n2:=BR.ne gL zd;go_wp2_with fail
 refine ((wQ _ _ u.natAbs g _ aI aI Ku.out Kg.out).mono (by rw [Eh.out];exact fun _ _ h=>h)).mono ?_;rintro e v9 ⟨v,rfl,Tw,hv⟩;obtain ⟨bK8,lHh,bQ3,rfl⟩:=hv.slice;have Hh:=zh hv;clear hv;replace Hu:=zh (aT.carry Hu.out aI Tw);replace Hg:=zh (aT.carry Hg.out aI Tw);replace Hr:=zh (aT.carry Hr.out aI Tw);replace G:=zh (aT.carry G.out aI Tw);replace Gd:=zh (aT.carry Gd.out aI Tw);replace gL:ah _ (b1) _ _:=ah.later aH Tw;(try simp only [List.setIfInBounds_toArray,List.set_cons_zero,List.set_cons_succ] at gL);replace sK:=gL.cell;replace sI:=gL.free;replace BR:ah _ (w.heap.size+1+1) _ _:=ah.later aH Tw;(try simp only [List.setIfInBounds_toArray,List.set_cons_zero,List.set_cons_succ] at BR);replace bQ:=BR.cell;replace bL:=BR.free
 replace B1:ah _ (w.heap.size+1) _ _:=ah.later aH Tw;(try simp only [List.setIfInBounds_toArray,List.set_cons_zero,List.set_cons_succ] at B1);replace cB1:=B1.cell;replace uG:=B1.free;replace B0:ah _ (w.heap.size) _ _:=ah.later aH Tw;(try simp only [List.setIfInBounds_toArray,List.set_cons_zero,List.set_cons_succ] at B0);replace cB0:=B0.cell;replace nE:=B0.free;go_wp2_with fail
 refine ((ji _ _ u.natAbs h _ aI aI HH.out Ku.out).mono (by rw [Em.out];exact fun _ _ h=>h)).mono ?_;rintro e v10 ⟨v,vr,rfl,ap0,hv,sH⟩;obtain ⟨bK6,lHm,bQ1,rfl⟩:=hv.slice;have Hm:=zh hv;clear hv;obtain ⟨bA3,bM4,bD6,rfl⟩:=sH.slice;have Hmr:=zh sH;clear sH;replace gL:=ah.later (gL) ap0;replace sK:=gL.cell;replace sI:=gL.free;replace BR:=ah.later (BR) ap0;replace bQ:=BR.cell;replace bL:=BR.free;replace B1:=ah.later (B1) ap0;replace cB1:=B1.cell;replace uG:=B1.free;replace B0:=ah.later (B0) ap0;replace cB0:=B0.cell;replace nE:=B0.free;go_wp2_with fail
 refine ((ji _ _ q.den h _ aI aI HH.out Kqd.out).mono (by rw [Ec.out];exact fun _ _ h=>h)).mono ?_;rintro e v11 ⟨v,vr,rfl,ao9,hv,sH⟩;obtain ⟨bo8,lHc,bt7,rfl⟩:=hv.slice;have Hc:=zh hv;clear hv;obtain ⟨bA5,bM6,bD8,rfl⟩:=sH.slice;have Hcr:=zh sH;clear sH;replace gL:=ah.later (gL) ao9;replace sK:=gL.cell;replace sI:=gL.free;replace BR:=ah.later (BR) ao9;replace bQ:=BR.cell;replace bL:=BR.free;replace B1:=ah.later (B1) ao9;replace cB1:=B1.cell;replace uG:=B1.free;replace B0:=ah.later (B0) ao9;replace cB0:=B0.cell;replace nE:=B0.free;go_wp2_with fail
 refine (iy _ m _ _ aI).mono ?_;rintro e v12 ⟨v,rfl,bf3,hv⟩;obtain ⟨bo6,lHv,bt5,rfl,Hv⟩:=hv;replace Hv:=zh Hv;replace gL:=ah.later (gL) bf3;replace sK:=gL.cell;replace sI:=gL.free;replace BR:=ah.later (BR) bf3;replace bQ:=BR.cell;replace bL:=BR.free;go_wp2_with fail
 refine ((lW _ _ r c _ aI aI (Nat.le_trans Kr.out zo) (Nat.le_trans Kc.out zo)).mono (by rw [Ed.out];exact fun _ _ h=>h)).mono ?_;rintro e v13 ⟨v,rfl,bs9,hv⟩;obtain ⟨bK9,lHd,bQ4,rfl⟩:=hv.slice;have Hd:=zh hv;clear hv;replace BR:=ah.later (BR) bs9;replace bQ:=BR.cell;replace bL:=BR.free;go_wp2_with fail
 refine dG rfl rfl aH Tryz.underlying108 rfl zk ?_;exact ⟨_,rfl,au,jc.mk (kM m (decide (u<0))).natAbs d aI aI (by rw [HP.out.1]) HP.out.2.symm (by rw [HP.out.1])⟩
theorem SN (v:Value) (q:Rat) (w:World) (h:jc w v q) :
  Calls Tryz.prog 281 #[v] w (fun e w'=>∃ v,e= .returned v∧Below w.heap.size w w'∧jc w' v (-q)):=by
 obtain ⟨Po,lH,Qp,pbH,mH,cbH,rfl,H,Hd⟩:=h;replace H:=zh H;replace Hd:=zh Hd;go_enter Tryz.func281,Tryz.ntmps281
 go_wp2_with fail
 refine aC [(.pure,0),(.read,1),(.pure,3),(.read,4),(.ext,2),(.pure,5),(.fin,6)] zk zk zR zP ?_;refine zV ?_;refine aL rfl rfl (fun w1 hb1 J hJ=>?_);go_simp;have BR:=ah.later (ah.drew (ah.qN _ _ _ _)) hb1;have bQ:=BR.cell;have bL:=BR.free;refine (wJ _ q.num _ (gN.iL aI)).mono ?_;rintro e v1 ⟨v,rfl,hc1,hv⟩;obtain ⟨aA5,lHS,aH4,rfl,HS⟩:=hv;replace HS:=zh HS;replace BR:=ah.later (BR) hc1;replace bQ:=BR.cell;replace bL:=BR.free;refine hJ _ _ hc1 ?_;clear hJ J;refine zV ?_;refine dK [_] rfl (fun w5 hb5=>?_);replace BR:=ah.later (BR) hb5;replace bQ:=BR.cell;replace bL:=BR.free;go_wp2_with fail
 refine dG rfl rfl aH Tryz.underlying108 rfl zk ?_;exact ⟨_,rfl,au,jc.mk (-q.num).natAbs q.den aI aI rfl rfl (by simp [Rat.neg_num])⟩
theorem Tn (v:Value) (q:Rat) (w:World) (h:jc w v q) (hq:q≠0) :
  Calls Tryz.prog 202 #[v] w (fun e w'=>∃ v,e= .returned v∧Below w.heap.size w w'∧jc w' v q⁻¹):=by
 obtain ⟨Po,lH,Qp,pbH,mH,cbH,rfl,H,Hd⟩:=h;replace H:=zh H;replace Hd:=zh Hd;have HE:=zh (Xt hq);clear hq;go_enter Tryz.func202,Tryz.ntmps202
 go_wp2_with fail
 refine aC [(.pure,0),(.read,1),(.pure,2),(.pure,3),(.read,4),(.pure,6),(.pure,7),(.read,8),(.ext,5),(.pure,9),(.fin,10)] zk zk zR zP ?_;refine zV ?_;refine aL rfl rfl (fun w1 hb1 J hJ=>?_);go_simp;have BR:=ah.later (ah.drew (ah.qN _ _ _ _)) hb1;have bQ:=BR.cell;have bL:=BR.free;refine (iy _ q.den _ _ aI).mono ?_;rintro e v1 ⟨v,rfl,hc1,hv⟩;obtain ⟨aA5,lHS,aH4,rfl,HS⟩:=hv;replace HS:=zh HS;replace BR:=ah.later (BR) hc1;replace bQ:=BR.cell;replace bL:=BR.free;refine hJ _ _ hc1 ?_;clear hJ J;refine zV ?_;refine dK [_] rfl (fun w5 hb5=>?_);replace BR:=ah.later (BR) hb5;replace bQ:=BR.cell;replace bL:=BR.free;go_wp2_with fail
 refine dG rfl rfl aH Tryz.underlying108 rfl zk ?_;exact ⟨_,rfl,au,jc.mk (kM q.den (decide (q.num<0))).natAbs q.num.natAbs aI aI (by rw [HE.out.1]) HE.out.2.symm (by rw [HE.out.1])⟩
theorem az6 (x y:Value) (p q:Rat) (w:World) (hx:jc w x p) (hy:jc w y q) (kp:wG 1000000 p) (kq:wG 1000000 q) :
  Calls Tryz.prog 240 #[x,y] w (fun e w'=>∃ v,e= .returned v∧Below w.heap.size w w'∧jc w' v (p - q)):=by
 obtain ⟨Po,lH,Qp,pbH,mH,cbH,rfl,H,Hd⟩:=hx;replace H:=zh H;replace Hd:=zh Hd;obtain ⟨paG,lG,caG,pbG,mG,cbG,rfl,G,Gd⟩:=hy;replace G:=zh G;replace Gd:=zh Gd;rw [Rat.sub_eq_add_neg];have KP:=zh kp;have KQ:=zh (Va kq);clear kp kq;obtain ⟨r,Er⟩:∃ y:Rat,Hid (-q=y):=⟨_,zh rfl⟩;rw [Er.out] at KQ ⊢;obtain ⟨s,Es⟩:∃ y:Rat,Hid (p+r=y):=⟨_,zh rfl⟩;rw [Es.out];go_enter Tryz.func240,Tryz.ntmps240
 go_wp2_with fail
 refine aC [(.read,0),(.read,1),(.ext,2),(.ext,3),(.fin,4)] zk zk zR zP ?_;refine zV ?_;refine aL rfl rfl (fun w1 hb1 J hJ=>?_);go_simp;have BR:=ah.later (ah.drew (ah.at2 _ _ _ _ _)) hb1;have bQ:=BR.cell;have bL:=BR.free;refine ((SN _ q _ (jc.of aI aI)).mono (by rw [Er.out];exact fun _ _ h=>h)).mono ?_;rintro e v1 ⟨v,rfl,hc1,hv⟩;obtain ⟨Na,lHr,NH,Sl,mHr,Uf,rfl,Hr,Cj⟩:=hv;replace Hr:=zh Hr;replace Cj:=zh Cj;replace BR:=ah.later (BR) hc1;replace bQ:=BR.cell;replace bL:=BR.free;refine hJ _ _ hc1 ?_;clear hJ J;refine aL rfl rfl (fun w2 hb2 J hJ=>?_);go_simp;replace BR:=ah.later (BR) hb2;replace bQ:=BR.cell;replace bL:=BR.free;refine ((af8 _ _ p r _ (jc.of aI aI) (jc.of aI aI) KP.out KQ.out).mono (by rw [Es.out];exact fun _ _ h=>h)).mono ?_;rintro e v2 ⟨v,rfl,hc2,hv⟩
 obtain ⟨JI,lHs,JZ,bJ3,mHs,bO8,rfl,Hs,Hsd⟩:=hv;replace Hs:=zh Hs;replace Hsd:=zh Hsd;replace BR:=ah.later (BR) hc2;replace bQ:=BR.cell;replace bL:=BR.free;refine hJ _ _ hc2 ?_;clear hJ J;refine zV ?_;refine dK [_] rfl (fun w14 aD7=>?_);replace BR:=ah.later (BR) aD7;replace bQ:=BR.cell;replace bL:=BR.free;go_wp2_with fail
 refine dG rfl rfl aH Tryz.underlying108 rfl zk ?_;exact ⟨_,rfl,au,jc.of aI aI⟩
theorem Yd (s t s' t':ByteArray) (w:World) (p q:Rat) (h:rd ⟨s,t⟩=some p) (k:rd ⟨s',t'⟩=some q) :
  Calls Tryz.prog 63 #[.agg #[.string s,.string t],.agg #[.string s',.string t'],.func (.func 239) #[] #[]] w (fun e w'=>∃ v,e= .returned (.tuple #[v,.int .i64 0])∧Below w.heap.size w w'∧jc w' v (p+q)):=by
 have HR:=zh (iW h);have HS:=zh (iW k);have KP:=zh ((mJ (oZ h).2).mono (show 67≤1000000 by omega));have KQ:=zh ((mJ (oZ k).2).mono (show 67≤1000000 by omega));clear h k;obtain ⟨r,Er⟩:∃ y:Rat,Hid (p+q=y):=⟨_,zh rfl⟩;rw [Er.out];go_enter Tryz.func63,Tryz.ntmps63
 go_wp2_with fail
 refine (HR.out _).mono ?_;rintro e v1 ⟨v,rfl,hc1,hv⟩;obtain ⟨Gx,ZT,Ja,JH,mHp,JY,rfl,Hp,rO⟩:=hv;replace Hp:=zh Hp;replace rO:=zh rO;have BR:=ah.later (ah.at2 _ _ _ _ _) hc1;have bQ:=BR.cell;have bL:=BR.free;have jE:=BR.lt;have B1:=ah.later (ah.alloc (ah.qN _ _ _ _) _) hc1;have cB1:=B1.cell;have uG:=B1.free;have lB1:=B1.lt;go_wp2_with fail
 refine (HS.out _).mono ?_;rintro e v2 ⟨v,rfl,hc2,hv⟩;obtain ⟨xI,Rm,xR,zN,Vu,Am,rfl,Hq,rM⟩:=hv;replace Hq:=zh Hq;replace rM:=zh rM;replace Hp:=zh (aT.carry Hp.out aI hc2);replace rO:=zh (aT.carry rO.out aI hc2);replace X1:ah _ (v1.heap.size) _ _:=ah.later aH hc2;(try simp only [List.setIfInBounds_toArray,List.set_cons_zero,List.set_cons_succ] at X1);replace aO:=X1.cell;replace aP:=X1.free;replace aN:=X1.lt;replace BR:ah _ (w.heap.size+1+1) _ _:=ah.later aH hc2;(try simp only [List.setIfInBounds_toArray,List.set_cons_zero,List.set_cons_succ] at BR);replace bQ:=BR.cell;replace bL:=BR.free;replace jE:=BR.lt;go_wp2_with fail
 refine ((af8 _ _ p q _ (jc.of aI aI) (jc.of aI aI) KP.out KQ.out).mono (by rw [Er.out];exact fun _ _ h=>h)).mono ?_;rintro e v3 ⟨v,rfl,hc3,hv⟩;obtain ⟨Na,lHr,NH,Sl,mHr,Uf,rfl,Hr,Cj⟩:=hv;replace Hr:=zh Hr;replace Cj:=zh Cj;replace BR:ah _ (w.heap.size+1+1) _ _:=ah.later aH hc3;(try simp only [List.setIfInBounds_toArray,List.set_cons_zero,List.set_cons_succ] at BR);replace bQ:=BR.cell;replace bL:=BR.free;replace jE:=BR.lt;go_wp2_with fail
 refine aK rfl rfl aH Tryz.underlying108 rfl zk ?_;exact ⟨_,rfl,au,jc.of aI aI⟩
theorem Kj (s t s' t':ByteArray) (w:World) (h:rd ⟨s,t⟩=none∨rd ⟨s',t'⟩=none) :
  Calls Tryz.prog 63 #[.agg #[.string s,.string t],.agg #[.string s',.string t'],.func (.func 239) #[] #[]] w (fun e w'=>e= .returned (.tuple #[.agg #[.slice none 0 0,.bool false,.slice none 0 0],.int .i64 20])∧Below w.heap.size w w'):=by
 cases h1:rd ⟨s,t⟩ with
 | none =>
  have HR:=zh (jy h1);cases k:rd ⟨s',t'⟩ with
  | none =>
   have HS:=zh (jy k);clear h k h1;go_enter Tryz.func63,Tryz.ntmps63
   go_wp2_with fail
   refine (HR.out _).mono ?_;rintro e v1 ⟨rfl,hc1⟩;have BR:=ah.later (ah.at2 _ _ _ _ _) hc1;have bQ:=BR.cell;have bL:=BR.free;have jE:=BR.lt;have B1:=ah.later (ah.alloc (ah.qN _ _ _ _) _) hc1;have cB1:=B1.cell;have uG:=B1.free;have lB1:=B1.lt;go_wp2_with fail
   refine (HS.out _).mono ?_;rintro e v2 ⟨rfl,hc2⟩;replace BR:ah _ (w.heap.size+1+1) _ _:=ah.later aH hc2;replace bQ:=BR.cell;replace bL:=BR.free;replace jE:=BR.lt;have q1:w.heap.size+1<v2.heap.size:=by omega
   go_wp2_with fail
   refine aK rfl rfl aH Tryz.underlying108 rfl zk ?_;exact ⟨rfl,au⟩
  | some q =>
   have HS:=zh (iW k);clear h k h1;go_enter Tryz.func63,Tryz.ntmps63
   go_wp2_with fail
   refine (HR.out _).mono ?_;rintro e v1 ⟨rfl,hc1⟩;have BR:=ah.later (ah.at2 _ _ _ _ _) hc1;have bQ:=BR.cell;have bL:=BR.free;have jE:=BR.lt;have B1:=ah.later (ah.alloc (ah.qN _ _ _ _) _) hc1;have cB1:=B1.cell;have uG:=B1.free;have lB1:=B1.lt;go_wp2_with fail
   refine (HS.out _).mono ?_;rintro e v2 ⟨v,rfl,hc2,hv⟩;obtain ⟨xI,Rm,xR,zN,Vu,Am,rfl,Hq,rM⟩:=hv;replace Hq:=zh Hq;replace rM:=zh rM;replace BR:ah _ (w.heap.size+1+1) _ _:=ah.later aH hc2;replace bQ:=BR.cell;replace bL:=BR.free;replace jE:=BR.lt;have q1:w.heap.size+1<v2.heap.size:=by omega
   go_wp2_with fail
   refine aK rfl rfl aH Tryz.underlying108 rfl zk ?_;exact ⟨rfl,au⟩
 | some p =>
  have HR:=zh (iW h1);cases k:rd ⟨s',t'⟩ with
  | none =>
   have HS:=zh (jy k);clear h k h1;go_enter Tryz.func63,Tryz.ntmps63
   go_wp2_with fail
   refine (HR.out _).mono ?_;rintro e v1 ⟨v,rfl,hc1,hv⟩;obtain ⟨Gx,ZT,Ja,JH,mHp,JY,rfl,Hp,rO⟩:=hv;replace Hp:=zh Hp;replace rO:=zh rO;have BR:=ah.later (ah.at2 _ _ _ _ _) hc1;have bQ:=BR.cell;have bL:=BR.free;have jE:=BR.lt;have B1:=ah.later (ah.alloc (ah.qN _ _ _ _) _) hc1;have cB1:=B1.cell;have uG:=B1.free;have lB1:=B1.lt;go_wp2_with fail
   refine (HS.out _).mono ?_;rintro e v2 ⟨rfl,hc2⟩;replace BR:ah _ (w.heap.size+1+1) _ _:=ah.later aH hc2;replace bQ:=BR.cell;replace bL:=BR.free;replace jE:=BR.lt;have q1:w.heap.size+1<v2.heap.size:=by omega
   go_wp2_with fail
   refine aK rfl rfl aH Tryz.underlying108 rfl zk ?_;exact ⟨rfl,au⟩
  | some q=>rw [h1,k] at h;simp at h
theorem Jv (a b:Fr) (w:World) (ht:jw.Pow w) :
  Calls Tryz.prog 168 #[a.v,b.v] w (fun e w'=>e= .returned (Fr.res (Kk a b))∧Below w.heap.size w w'):=by
 obtain ⟨s,t⟩:=a;obtain ⟨s',t'⟩:=b
 show Calls _ _ #[.agg #[.string s,.string t],.agg #[.string s',.string t']] _ _
 unfold Kk;have HT:=zh ht;clear ht
 by_cases hbad:rd ⟨s,t⟩=none∨rd ⟨s',t'⟩=none
 ·have e:∀ f,bin f ⟨s,t⟩ ⟨s',t'⟩=(Fr.no,20):=fun f=>by
   rcases hbad with h|h
   ·exact EO h
   ·exact EH h
  rw [e];have HA:=zh (fun w=>Kj s t s' t' w hbad);clear hbad e;go_enter Tryz.func168,Tryz.ntmps168
  go_wp2_with fail
  refine (HA.out _).mono ?_;rintro e v1 ⟨rfl,hc1⟩;have BR:=ah.later (ah.at2 _ _ _ _ _) hc1;have bQ:=BR.cell;have bL:=BR.free;have jE:=BR.lt;go_wp2_with fail
  refine (yJ _).mono ?_;rintro e v2 ⟨rfl,hc2⟩;replace BR:=ah.later (BR) hc2;replace bQ:=BR.cell;replace bL:=BR.free;replace jE:=BR.lt;go_wp2_with fail
  refine aK rfl rfl aH Tryz.underlying32 rfl zk ?_;exact ⟨rfl,au⟩
 ·obtain ⟨p,hp⟩:∃ p,rd ⟨s,t⟩=some p:=Option.ne_none_iff_exists'.1 (fun e=>hbad (.inl e));obtain ⟨q,hq⟩:∃ q,rd ⟨s',t'⟩=some q:=Option.ne_none_iff_exists'.1 (fun e=>hbad (.inr e));rw [Ap hp hq];have KP:=zh (mJ (oZ hp).2);have KQ:=zh (mJ (oZ hq).2);have HA:=zh (fun w=>Yd s t s' t' w p q hp hq);have KR:Hid (wG 1000000 (p+q)):=zh (wG.mono (k:=135) (Vd KP.out KQ.out) zo);clear hp hq hbad KP KQ;obtain ⟨r,Er⟩:∃ y:Rat,Hid (p+q=y):=⟨_,zh rfl⟩;simp only [Er.out] at KR HA ⊢;obtain ⟨x,Ex⟩:∃ y:FrI,Hid (wr r=y):=⟨_,zh rfl⟩;rw [Ex.out];obtain ⟨⟨s1,t1⟩,e⟩:=x;rw [oP];go_enter Tryz.func168,Tryz.ntmps168
  go_wp2_with fail
  refine (HA.out _).mono ?_;rintro e v1 ⟨v,rfl,hc1,hv⟩;obtain ⟨Na,lHr,NH,Sl,mHr,Uf,rfl,Hr,Cj⟩:=hv;replace Hr:=zh Hr;replace Cj:=zh Cj;have BR:=ah.later (ah.at2 _ _ _ _ _) hc1;have bQ:=BR.cell;have bL:=BR.free;have jE:=BR.lt;go_wp2_with fail
  refine ((Bl _ r _ (jc.of aI aI) KR.out (HT.out.later au)).mono (by rw [Ex.out,oP];exact fun _ _ h=>h)).mono ?_;rintro e v2 ⟨rfl,hc2⟩;replace BR:=ah.later (BR) hc2;replace bQ:=BR.cell;replace bL:=BR.free;replace jE:=BR.lt;go_wp2_with fail
  refine aK rfl rfl aH Tryz.underlying32 rfl zk ?_;exact ⟨rfl,au⟩
theorem Yb (s t s' t':ByteArray) (w:World) (p q:Rat) (h:rd ⟨s,t⟩=some p) (k:rd ⟨s',t'⟩=some q) :
  Calls Tryz.prog 63 #[.agg #[.string s,.string t],.agg #[.string s',.string t'],.func (.func 240) #[] #[]] w (fun e w'=>∃ v,e= .returned (.tuple #[v,.int .i64 0])∧Below w.heap.size w w'∧jc w' v (p - q)):=by
 have HR:=zh (iW h);have HS:=zh (iW k);have KP:=zh ((mJ (oZ h).2).mono (show 67≤1000000 by omega));have KQ:=zh ((mJ (oZ k).2).mono (show 67≤1000000 by omega));clear h k;obtain ⟨r,Er⟩:∃ y:Rat,Hid (p - q=y):=⟨_,zh rfl⟩;rw [Er.out];go_enter Tryz.func63,Tryz.ntmps63
 go_wp2_with fail
 refine (HR.out _).mono ?_;rintro e v1 ⟨v,rfl,hc1,hv⟩;obtain ⟨Gx,ZT,Ja,JH,mHp,JY,rfl,Hp,rO⟩:=hv;replace Hp:=zh Hp;replace rO:=zh rO;have BR:=ah.later (ah.at2 _ _ _ _ _) hc1;have bQ:=BR.cell;have bL:=BR.free;have jE:=BR.lt;have B1:=ah.later (ah.alloc (ah.qN _ _ _ _) _) hc1;have cB1:=B1.cell;have uG:=B1.free;have lB1:=B1.lt;go_wp2_with fail
 refine (HS.out _).mono ?_;rintro e v2 ⟨v,rfl,hc2,hv⟩;obtain ⟨xI,Rm,xR,zN,Vu,Am,rfl,Hq,rM⟩:=hv;replace Hq:=zh Hq;replace rM:=zh rM;replace Hp:=zh (aT.carry Hp.out aI hc2);replace rO:=zh (aT.carry rO.out aI hc2);replace X1:ah _ (v1.heap.size) _ _:=ah.later aH hc2;(try simp only [List.setIfInBounds_toArray,List.set_cons_zero,List.set_cons_succ] at X1);replace aO:=X1.cell;replace aP:=X1.free;replace aN:=X1.lt;replace BR:ah _ (w.heap.size+1+1) _ _:=ah.later aH hc2;(try simp only [List.setIfInBounds_toArray,List.set_cons_zero,List.set_cons_succ] at BR);replace bQ:=BR.cell;replace bL:=BR.free;replace jE:=BR.lt;go_wp2_with fail
 refine ((az6 _ _ p q _ (jc.of aI aI) (jc.of aI aI) KP.out KQ.out).mono (by rw [Er.out];exact fun _ _ h=>h)).mono ?_;rintro e v3 ⟨v,rfl,hc3,hv⟩;obtain ⟨Na,lHr,NH,Sl,mHr,Uf,rfl,Hr,Cj⟩:=hv;replace Hr:=zh Hr;replace Cj:=zh Cj;replace BR:ah _ (w.heap.size+1+1) _ _:=ah.later aH hc3;(try simp only [List.setIfInBounds_toArray,List.set_cons_zero,List.set_cons_succ] at BR);replace bQ:=BR.cell;replace bL:=BR.free;replace jE:=BR.lt;go_wp2_with fail
 refine aK rfl rfl aH Tryz.underlying108 rfl zk ?_;exact ⟨_,rfl,au,jc.of aI aI⟩
theorem Kh (s t s' t':ByteArray) (w:World) (h:rd ⟨s,t⟩=none∨rd ⟨s',t'⟩=none) :
  Calls Tryz.prog 63 #[.agg #[.string s,.string t],.agg #[.string s',.string t'],.func (.func 240) #[] #[]] w (fun e w'=>e= .returned (.tuple #[.agg #[.slice none 0 0,.bool false,.slice none 0 0],.int .i64 20])∧Below w.heap.size w w'):=by
 cases h1:rd ⟨s,t⟩ with
 | none =>
  have HR:=zh (jy h1);cases k:rd ⟨s',t'⟩ with
  | none =>
   have HS:=zh (jy k);clear h k h1;go_enter Tryz.func63,Tryz.ntmps63
   go_wp2_with fail
   refine (HR.out _).mono ?_;rintro e v1 ⟨rfl,hc1⟩;have BR:=ah.later (ah.at2 _ _ _ _ _) hc1;have bQ:=BR.cell;have bL:=BR.free;have jE:=BR.lt;have B1:=ah.later (ah.alloc (ah.qN _ _ _ _) _) hc1;have cB1:=B1.cell;have uG:=B1.free;have lB1:=B1.lt;go_wp2_with fail
   refine (HS.out _).mono ?_;rintro e v2 ⟨rfl,hc2⟩;replace BR:ah _ (w.heap.size+1+1) _ _:=ah.later aH hc2;replace bQ:=BR.cell;replace bL:=BR.free;replace jE:=BR.lt;have q1:w.heap.size+1<v2.heap.size:=by omega
   go_wp2_with fail
   refine aK rfl rfl aH Tryz.underlying108 rfl zk ?_;exact ⟨rfl,au⟩
  | some q =>
   have HS:=zh (iW k);clear h k h1;go_enter Tryz.func63,Tryz.ntmps63
   go_wp2_with fail
   refine (HR.out _).mono ?_;rintro e v1 ⟨rfl,hc1⟩;have BR:=ah.later (ah.at2 _ _ _ _ _) hc1;have bQ:=BR.cell;have bL:=BR.free;have jE:=BR.lt;have B1:=ah.later (ah.alloc (ah.qN _ _ _ _) _) hc1;have cB1:=B1.cell;have uG:=B1.free;have lB1:=B1.lt;go_wp2_with fail
   refine (HS.out _).mono ?_;rintro e v2 ⟨v,rfl,hc2,hv⟩;obtain ⟨xI,Rm,xR,zN,Vu,Am,rfl,Hq,rM⟩:=hv;replace Hq:=zh Hq;replace rM:=zh rM;replace BR:ah _ (w.heap.size+1+1) _ _:=ah.later aH hc2;replace bQ:=BR.cell;replace bL:=BR.free;replace jE:=BR.lt;have q1:w.heap.size+1<v2.heap.size:=by omega
   go_wp2_with fail
   refine aK rfl rfl aH Tryz.underlying108 rfl zk ?_;exact ⟨rfl,au⟩
 | some p =>
  have HR:=zh (iW h1);cases k:rd ⟨s',t'⟩ with
  | none =>
   have HS:=zh (jy k);clear h k h1;go_enter Tryz.func63,Tryz.ntmps63
   go_wp2_with fail
   refine (HR.out _).mono ?_;rintro e v1 ⟨v,rfl,hc1,hv⟩;obtain ⟨Gx,ZT,Ja,JH,mHp,JY,rfl,Hp,rO⟩:=hv;replace Hp:=zh Hp;replace rO:=zh rO;have BR:=ah.later (ah.at2 _ _ _ _ _) hc1;have bQ:=BR.cell;have bL:=BR.free;have jE:=BR.lt;have B1:=ah.later (ah.alloc (ah.qN _ _ _ _) _) hc1;have cB1:=B1.cell;have uG:=B1.free;have lB1:=B1.lt;go_wp2_with fail
   refine (HS.out _).mono ?_;rintro e v2 ⟨rfl,hc2⟩;replace BR:ah _ (w.heap.size+1+1) _ _:=ah.later aH hc2;replace bQ:=BR.cell;replace bL:=BR.free;replace jE:=BR.lt;have q1:w.heap.size+1<v2.heap.size:=by omega
   go_wp2_with fail
   refine aK rfl rfl aH Tryz.underlying108 rfl zk ?_;exact ⟨rfl,au⟩
  | some q=>rw [h1,k] at h;simp at h
theorem Uv (a b:Fr) (w:World) (ht:jw.Pow w) :
  Calls Tryz.prog 171 #[a.v,b.v] w (fun e w'=>e= .returned (Fr.res (RQ a b))∧Below w.heap.size w w'):=by
 obtain ⟨s,t⟩:=a;obtain ⟨s',t'⟩:=b
 show Calls _ _ #[.agg #[.string s,.string t],.agg #[.string s',.string t']] _ _
 unfold RQ;have HT:=zh ht;clear ht
 by_cases hbad:rd ⟨s,t⟩=none∨rd ⟨s',t'⟩=none
 ·have e:∀ f,bin f ⟨s,t⟩ ⟨s',t'⟩=(Fr.no,20):=fun f=>by
   rcases hbad with h|h
   ·exact EO h
   ·exact EH h
  rw [e];have HA:=zh (fun w=>Kh s t s' t' w hbad);clear hbad e;go_enter Tryz.func171,Tryz.ntmps171
  go_wp2_with fail
  refine (HA.out _).mono ?_;rintro e v1 ⟨rfl,hc1⟩;have BR:=ah.later (ah.at2 _ _ _ _ _) hc1;have bQ:=BR.cell;have bL:=BR.free;have jE:=BR.lt;go_wp2_with fail
  refine (yJ _).mono ?_;rintro e v2 ⟨rfl,hc2⟩;replace BR:=ah.later (BR) hc2;replace bQ:=BR.cell;replace bL:=BR.free;replace jE:=BR.lt;go_wp2_with fail
  refine aK rfl rfl aH Tryz.underlying32 rfl zk ?_;exact ⟨rfl,au⟩
 ·obtain ⟨p,hp⟩:∃ p,rd ⟨s,t⟩=some p:=Option.ne_none_iff_exists'.1 (fun e=>hbad (.inl e));obtain ⟨q,hq⟩:∃ q,rd ⟨s',t'⟩=some q:=Option.ne_none_iff_exists'.1 (fun e=>hbad (.inr e));rw [Ap hp hq];have KP:=zh (mJ (oZ hp).2);have KQ:=zh (mJ (oZ hq).2);have HA:=zh (fun w=>Yb s t s' t' w p q hp hq);have KR:Hid (wG 1000000 (p - q)):=zh (wG.mono (k:=135) (by rw [Rat.sub_eq_add_neg];exact Vd KP.out (Va KQ.out)) zo);clear hp hq hbad KP KQ;obtain ⟨r,Er⟩:∃ y:Rat,Hid (p - q=y):=⟨_,zh rfl⟩;simp only [Er.out] at KR HA ⊢;obtain ⟨x,Ex⟩:∃ y:FrI,Hid (wr r=y):=⟨_,zh rfl⟩;rw [Ex.out];obtain ⟨⟨s1,t1⟩,e⟩:=x;rw [oP];go_enter Tryz.func171,Tryz.ntmps171
  go_wp2_with fail
  refine (HA.out _).mono ?_;rintro e v1 ⟨v,rfl,hc1,hv⟩;obtain ⟨Na,lHr,NH,Sl,mHr,Uf,rfl,Hr,Cj⟩:=hv;replace Hr:=zh Hr;replace Cj:=zh Cj;have BR:=ah.later (ah.at2 _ _ _ _ _) hc1;have bQ:=BR.cell;have bL:=BR.free;have jE:=BR.lt;go_wp2_with fail
  refine ((Bl _ r _ (jc.of aI aI) KR.out (HT.out.later au)).mono (by rw [Ex.out,oP];exact fun _ _ h=>h)).mono ?_;rintro e v2 ⟨rfl,hc2⟩;replace BR:=ah.later (BR) hc2;replace bQ:=BR.cell;replace bL:=BR.free;replace jE:=BR.lt;go_wp2_with fail
  refine aK rfl rfl aH Tryz.underlying32 rfl zk ?_;exact ⟨rfl,au⟩
theorem ar0 (s t s' t':ByteArray) (w:World) (h:rd ⟨s,t⟩=none∨rd ⟨s',t'⟩=none) :
  Calls Tryz.prog 128 #[.agg #[.string s,.string t],.agg #[.string s',.string t']] w (fun e w'=>e= .returned (.tuple #[.agg #[.string ⟨#[]⟩,.string ⟨#[]⟩],.int .i64 20])∧Below w.heap.size w w'):=by
 cases h1:rd ⟨s,t⟩ with
 | none =>
  have HR:=zh (jy h1);cases k:rd ⟨s',t'⟩ with
  | none =>
   have HS:=zh (jy k);clear h k h1;go_enter Tryz.func128,Tryz.ntmps128
   go_wp2_with fail
   refine (HR.out _).mono ?_;rintro e v1 ⟨rfl,hc1⟩;have BR:=ah.later (ah.at2 _ _ _ _ _) hc1;have bQ:=BR.cell;have bL:=BR.free;have jE:=BR.lt;have B1:=ah.later (ah.alloc (ah.qN _ _ _ _) _) hc1;have cB1:=B1.cell;have uG:=B1.free;have lB1:=B1.lt;go_wp2_with fail
   refine (HS.out _).mono ?_;rintro e v2 ⟨rfl,hc2⟩;replace BR:ah _ (w.heap.size+1+1) _ _:=ah.later aH hc2;(try simp only [List.setIfInBounds_toArray,List.set_cons_zero,List.set_cons_succ] at BR);replace bQ:=BR.cell;replace bL:=BR.free;replace jE:=BR.lt;go_wp2_with fail
   refine aK rfl rfl aH Tryz.underlying32 rfl zk ?_;exact ⟨rfl,au⟩
  | some q =>
   have HS:=zh (iW k);clear h k h1;go_enter Tryz.func128,Tryz.ntmps128
   go_wp2_with fail
   refine (HR.out _).mono ?_;rintro e v1 ⟨rfl,hc1⟩;have BR:=ah.later (ah.at2 _ _ _ _ _) hc1;have bQ:=BR.cell;have bL:=BR.free;have jE:=BR.lt;have B1:=ah.later (ah.alloc (ah.qN _ _ _ _) _) hc1;have cB1:=B1.cell;have uG:=B1.free;have lB1:=B1.lt;go_wp2_with fail
   refine (HS.out _).mono ?_;rintro e v2 ⟨v,rfl,hc2,hv⟩;obtain ⟨xI,Rm,xR,zN,Vu,Am,rfl,Hq,rM⟩:=hv;replace Hq:=zh Hq;replace rM:=zh rM;replace BR:ah _ (w.heap.size+1+1) _ _:=ah.later aH hc2;(try simp only [List.setIfInBounds_toArray,List.set_cons_zero,List.set_cons_succ] at BR);replace bQ:=BR.cell;replace bL:=BR.free;replace jE:=BR.lt;go_wp2_with fail
   refine aK rfl rfl aH Tryz.underlying32 rfl zk ?_;exact ⟨rfl,au⟩
 | some p =>
  have HR:=zh (iW h1);cases k:rd ⟨s',t'⟩ with
  | none =>
   have HS:=zh (jy k);clear h k h1;go_enter Tryz.func128,Tryz.ntmps128
   go_wp2_with fail
   refine (HR.out _).mono ?_;rintro e v1 ⟨v,rfl,hc1,hv⟩;obtain ⟨Gx,ZT,Ja,JH,mHp,JY,rfl,Hp,rO⟩:=hv;replace Hp:=zh Hp;replace rO:=zh rO;have BR:=ah.later (ah.at2 _ _ _ _ _) hc1;have bQ:=BR.cell;have bL:=BR.free;have jE:=BR.lt;have B1:=ah.later (ah.alloc (ah.qN _ _ _ _) _) hc1;have cB1:=B1.cell;have uG:=B1.free;have lB1:=B1.lt;go_wp2_with fail
   refine (HS.out _).mono ?_;rintro e v2 ⟨rfl,hc2⟩;replace BR:ah _ (w.heap.size+1+1) _ _:=ah.later aH hc2;(try simp only [List.setIfInBounds_toArray,List.set_cons_zero,List.set_cons_succ] at BR);replace bQ:=BR.cell;replace bL:=BR.free;replace jE:=BR.lt;go_wp2_with fail
   refine aK rfl rfl aH Tryz.underlying32 rfl zk ?_;exact ⟨rfl,au⟩
  | some q=>rw [h1,k] at h;simp at h
theorem div_zero (s t s' t':ByteArray) (w:World) (p:Rat) (h:rd ⟨s,t⟩=some p) (k:rd ⟨s',t'⟩=some 0) :
  Calls Tryz.prog 128 #[.agg #[.string s,.string t],.agg #[.string s',.string t']] w (fun e w'=>e= .returned (.tuple #[.agg #[.string ⟨#[]⟩,.string ⟨#[]⟩],.int .i64 7])∧Below w.heap.size w w'):=by
 have HR:=zh (iW h);have HS:=zh (iW k);clear h k;obtain ⟨n,En⟩:∃ y:Nat,Hid ((0:Rat).num.natAbs=y):=⟨_,zh rfl⟩;have hz:decide (n=0)=true:=by rw [← En.out];rfl
 have HZ:=zh hz;clear hz;go_enter Tryz.func128,Tryz.ntmps128
 go_wp2_with fail
 refine (HR.out _).mono ?_;rintro e v1 ⟨v,rfl,hc1,hv⟩;obtain ⟨Gx,ZT,Ja,JH,mHp,JY,rfl,Hp,rO⟩:=hv;replace Hp:=zh Hp;replace rO:=zh rO;have BR:=ah.later (ah.at2 _ _ _ _ _) hc1;have bQ:=BR.cell;have bL:=BR.free;have jE:=BR.lt;have B1:=ah.later (ah.alloc (ah.qN _ _ _ _) _) hc1;have cB1:=B1.cell;have uG:=B1.free;have lB1:=B1.lt;go_wp2_with fail
 refine (HS.out _).mono ?_;rintro e v2 ⟨v,rfl,hc2,hv⟩;obtain ⟨xI,Rm,xR,zN,Vu,Am,rfl,Hq,rM⟩:=hv;replace Hq:=zh Hq;replace rM:=zh rM;replace BR:ah _ (w.heap.size+1+1) _ _:=ah.later aH hc2;(try simp only [List.setIfInBounds_toArray,List.set_cons_zero,List.set_cons_succ] at BR);replace bQ:=BR.cell;replace bL:=BR.free;replace jE:=BR.lt;go_wp2_with fail
 rw [En.out] at Hq;refine (jH _ n _ aI).mono ?_;rintro e v5 ⟨rfl,rfl⟩;rw [HZ.out];go_wp2_with fail
 refine aK rfl rfl aH Tryz.underlying32 rfl zk ?_;exact ⟨rfl,au⟩
theorem ae0 (s t s' t':ByteArray) (w:World) (p q:Rat) (h:rd ⟨s,t⟩=some p) (k:rd ⟨s',t'⟩=some q) (h0:q≠0) (ht:jw.Pow w) :
  Calls Tryz.prog 128 #[.agg #[.string s,.string t],.agg #[.string s',.string t']] w (fun e w'=>e= .returned (Fr.res (wr (p / q)))∧Below w.heap.size w w'):=by
 have HR:=zh (iW h);have HS:=zh (iW k);have kp:=mJ (oZ h).2;have kq:=mJ (oZ k).2;have ki:=aj6 kq h0
 have hz:decide (q.num.natAbs=0)=false:=by
  simp [h0]
 have HZ:=zh hz;have HQ0:=zh h0;have HT:=zh ht;rw [Rat.div_def];have km:=Vb kp ki;obtain ⟨i,Ei⟩:∃ y:Rat,Hid (q⁻¹=y):=⟨_,zh rfl⟩;rw [Ei.out] at km ki ⊢;obtain ⟨r,Er⟩:∃ y:Rat,Hid (p*i=y):=⟨_,zh rfl⟩;rw [Er.out] at km ⊢;have KP:=zh (kp.mono (show 67≤1000000 by omega));have KI:=zh (ki.mono (show 67≤1000000 by omega));have KR:=zh (km.mono (show 2*67≤1000000 by omega));obtain ⟨x,Ex⟩:∃ y:FrI,Hid (wr r=y):=⟨_,zh rfl⟩;rw [Ex.out];obtain ⟨⟨s1,t1⟩,e⟩:=x;rw [oP];clear h k kp kq ki hz h0 ht km;go_enter Tryz.func128,Tryz.ntmps128
 go_wp2_with fail
 refine (HR.out _).mono ?_;rintro e v1 ⟨v,rfl,hc1,hv⟩;obtain ⟨Gx,ZT,Ja,JH,mHp,JY,rfl,Hp,rO⟩:=hv;replace Hp:=zh Hp;replace rO:=zh rO;have BR:=ah.later (ah.at2 _ _ _ _ _) hc1;have bQ:=BR.cell;have bL:=BR.free;have jE:=BR.lt;have B1:=ah.later (ah.alloc (ah.qN _ _ _ _) _) hc1;have cB1:=B1.cell;have uG:=B1.free;have lB1:=B1.lt;go_wp2_with fail
 refine (HS.out _).mono ?_;rintro e v2 ⟨v,rfl,hc2,hv⟩;obtain ⟨xI,Rm,xR,zN,Vu,Am,rfl,Hq,rM⟩:=hv;replace Hq:=zh Hq;replace rM:=zh rM;replace Hp:=zh (aT.carry Hp.out aI hc2);replace rO:=zh (aT.carry rO.out aI hc2);replace X1:ah _ (v1.heap.size) _ _:=ah.later aH hc2;(try simp only [List.setIfInBounds_toArray,List.set_cons_zero,List.set_cons_succ] at X1);replace aO:=X1.cell;replace aP:=X1.free;replace aN:=X1.lt;replace BR:ah _ (w.heap.size+1+1) _ _:=ah.later aH hc2;(try simp only [List.setIfInBounds_toArray,List.set_cons_zero,List.set_cons_succ] at BR);replace bQ:=BR.cell;replace bL:=BR.free;replace jE:=BR.lt;go_wp2_with fail
 refine (jH _ q.num.natAbs _ aI).mono ?_;rintro e v5 ⟨rfl,rfl⟩;rw [HZ.out];go_wp2_with fail
 refine aC [(.read,0),(.read,1),(.ext,2),(.ext,3),(.ext,4),(.pure,5),(.pure,6),(.fin,7),(.fin,8)] zk zk zR zP ?_;refine zV ?_;refine aL rfl rfl (fun w3 hb3 J hJ=>?_);go_simp;replace Hp:=zh (aT.carry Hp.out aI hb3);replace rO:=zh (aT.carry rO.out aI hb3);replace BR:ah _ (w.heap.size+1+1) _ _:=ah.later aH hb3;(try simp only [List.setIfInBounds_toArray,List.set_cons_zero,List.set_cons_succ] at BR);replace bQ:=BR.cell;replace bL:=BR.free;replace jE:=BR.lt;refine ((Tn _ q _ (jc.of aI aI) HQ0.out).mono (by rw [Ei.out];exact fun _ _ h=>h)).mono ?_;rintro e v3 ⟨v,rfl,hc3,hv⟩;obtain ⟨bo6,lHv,bt5,bJ2,mHv,bO7,rfl,Hv,Hvd⟩:=hv;replace Hv:=zh Hv;replace Hvd:=zh Hvd;replace Hp:=zh (aT.later Hp.out hc3);replace rO:=zh (aT.later rO.out hc3);replace BR:=ah.later (BR) hc3;replace bQ:=BR.cell;replace bL:=BR.free;replace jE:=BR.lt
 refine hJ _ _ hc3 ?_;clear hJ J;refine aL rfl rfl (fun w4 hb4 J hJ=>?_);go_simp;replace Hp:=zh (aT.later Hp.out hb4);replace rO:=zh (aT.later rO.out hb4);replace Hv:=zh (aT.later Hv.out hb4);replace Hvd:=zh (aT.later Hvd.out hb4);replace BR:=ah.later (BR) hb4;replace bQ:=BR.cell;replace bL:=BR.free;replace jE:=BR.lt;refine ((ZG _ _ p i _ (jc.of aI aI) (jc.of aI aI) KP.out KI.out).mono (by rw [Er.out];exact fun _ _ h=>h)).mono ?_;rintro e v4 ⟨v,rfl,hc4,hv⟩;obtain ⟨Na,lHr,NH,Sl,mHr,Uf,rfl,Hr,Cj⟩:=hv;replace Hr:=zh Hr;replace Cj:=zh Cj;replace Hp:=zh (aT.later Hp.out hc4);replace rO:=zh (aT.later rO.out hc4);replace Hv:=zh (aT.later Hv.out hc4);replace Hvd:=zh (aT.later Hvd.out hc4);replace BR:=ah.later (BR) hc4;replace bQ:=BR.cell;replace bL:=BR.free;replace jE:=BR.lt;refine hJ _ _ hc4 ?_;clear hJ J
 refine aL rfl rfl (fun w5 hb5 J hJ=>?_);go_simp;replace Hr:=zh (aT.later Hr.out hb5);replace Cj:=zh (aT.later Cj.out hb5);replace BR:=ah.later (BR) hb5;replace bQ:=BR.cell;replace bL:=BR.free;replace jE:=BR.lt;refine ((nP _ r _ (jc.of aI aI) KR.out (HT.out.later au)).mono (by rw [Ex.out,oP];exact fun _ _ h=>h)).mono ?_;rintro e v5 ⟨rfl,rE⟩;replace Hr:=zh (aT.later Hr.out rE);replace Cj:=zh (aT.later Cj.out rE);replace BR:=ah.later (BR) rE;replace bQ:=BR.cell;replace bL:=BR.free;replace jE:=BR.lt;refine hJ _ _ rE ?_;clear hJ J;refine zV ?_;refine dK [_,_] rfl (fun w9 DW=>?_);replace BR:=ah.later (BR) DW;replace bQ:=BR.cell;replace bL:=BR.free;replace jE:=BR.lt;go_wp2_with fail
 refine aK rfl rfl aH Tryz.underlying32 rfl zk ?_;exact ⟨rfl,au⟩
theorem Ju (a b:Fr) (w:World) (ht:jw.Pow w) :
  Calls Tryz.prog 128 #[a.v,b.v] w (fun e w'=>e= .returned (Fr.res (Dq a b))∧Below w.heap.size w w'):=by
 obtain ⟨s,t⟩:=a;obtain ⟨s',t'⟩:=b
 show Calls _ _ #[.agg #[.string s,.string t],.agg #[.string s',.string t']] _ _
 unfold Dq
 by_cases hbad:rd ⟨s,t⟩=none∨rd ⟨s',t'⟩=none
 ·have e:∀ f,bin f ⟨s,t⟩ ⟨s',t'⟩=(Fr.no,20):=fun f=>by
   rcases hbad with h|h
   ·exact EO h
   ·exact EH h
  rw [e];exact ar0 s t s' t' w hbad
 ·obtain ⟨p,hp⟩:∃ p,rd ⟨s,t⟩=some p:=Option.ne_none_iff_exists'.1 (fun e=>hbad (.inl e));obtain ⟨q,hq⟩:∃ q,rd ⟨s',t'⟩=some q:=Option.ne_none_iff_exists'.1 (fun e=>hbad (.inr e));rw [Ap hp hq]
  by_cases h0:q=0
  ·rw [if_pos h0];subst h0;exact div_zero s t s' t' w p hp hq
  ·rw [if_neg h0];exact ae0 s t s' t' w p q hp hq h0 ht
theorem Lm {z:Int} {d:Nat} (hd:0<d) (h:z<0):z / (d:Int)= -((z.natAbs / d+(if z.natAbs%d=0 then 0 else 1):Nat):Int):=by
 have h1:=aQ.Vs z.natAbs d hd;have e:z= -(z.natAbs:Int):=by omega
 conv=>lhs;rw [e]
 rw [h1];unfold aQ.vZ
 by_cases c:z.natAbs%d=0
 ·rw [if_neg zo,if_pos c,Nat.add_zero]
 ·rw [if_pos ⟨by omega,rfl⟩,if_neg c]
theorem ad7 (v u:Value) (z:Int) (d:Nat) (w:World) (h:gN w v z) (hu:aT w u d) (hd:0<d) (kz:sz 1000000000 z.natAbs≤549755813888) (kd:sz 1000000000 d≤549755813888) :
  Calls Tryz.prog 247 #[v,u] w (fun e w'=>∃ r,e= .returned r∧Below w.heap.size w w'∧gN w' r (z / (d:Int))):=by
 obtain ⟨Po,lH,Qp,rfl,H⟩:=h;replace H:=zh H;obtain ⟨paG,lG,caG,rfl⟩:=hu.slice;have G:=zh hu;clear hu;have HD:=zh hd;have KZ:=zh kz;have KD:=zh kd;have KQ:Hid (sz 1000000000 (z.natAbs / d)≤549755813888):=zh (Nat.le_trans (jO zo (Nat.div_le_self _ _)) kz);obtain ⟨q,Eq⟩:∃ y:Nat,Hid (z.natAbs / d=y):=⟨_,zh rfl⟩;obtain ⟨r,Er⟩:∃ y:Nat,Hid (z.natAbs%d=y):=⟨_,zh rfl⟩;rw [Eq.out] at KQ;clear hd kz kd
 by_cases hz:z<0
 ·have g1:decide (z<0)=true:=decide_eq_true hz;go_enter Tryz.func247,Tryz.ntmps247
  go_wp2_with fail
  refine ((ji _ _ z.natAbs d _ aI aI HD.out KZ.out).mono (by rw [Eq.out,Er.out];exact fun _ _ h=>h)).mono ?_;rintro e v1 ⟨v,vr,rfl,hc1,hv,sH⟩;obtain ⟨xI,Rm,xR,rfl⟩:=hv.slice;have Hq:=zh hv;clear hv;obtain ⟨aW7,bq8,bh3,rfl⟩:=sH.slice;have Hqr:=zh sH;clear sH;have BR:=ah.later (ah.qN _ _ _ _) hc1;have bQ:=BR.cell;have bL:=BR.free;have jE:=BR.lt;have B0:=ah.later (ah.alloc (ah.new _ _ _) _) hc1;have cB0:=B0.cell;have nE:=B0.free;have lB0:=B0.lt;go_wp2_with fail
  by_cases hr:r=0
  ·have HR0:=zh hr;refine (jH _ r _ aI).mono ?_;rintro e v5 ⟨rfl,rfl⟩;rw [show decide (r=0)=true from decide_eq_true hr];clear hr;go_wp2_with fail
   refine (iy _ q true _ aI).mono ?_;rintro e v3 ⟨v,rfl,hc3,hv⟩;obtain ⟨JI,lHs,JZ,rfl,Hs⟩:=hv;replace Hs:=zh Hs;replace BR:=ah.later (BR) hc3;replace bQ:=BR.cell;replace bL:=BR.free;replace jE:=BR.lt;replace B0:=ah.later (B0) hc3;replace cB0:=B0.cell;replace nE:=B0.free;replace lB0:=B0.lt;go_wp2_with fail
   have HE:Hid (kM q true=z / (d:Int)):=by
    rw [Lm HD.out hz,Er.out,Eq.out,if_pos HR0.out,Nat.add_zero];rfl
   refine dG rfl rfl aH Tryz.underlying106 rfl zk ?_;exact ⟨_,rfl,au,(gN.iL aI).cast HE.out⟩
  ·have HR0:=zh hr;refine (jH _ r _ aI).mono ?_;rintro e v5 ⟨rfl,rfl⟩;rw [show decide (r=0)=false from decide_eq_false hr];clear hr;go_wp2_with fail
   refine (DK _ _ q 1 _ aI (aT.lit zo zo) (Nat.le_trans KQ.out zo) (by have:=bH (B:=1000000000) zo 1 1 zo;omega)).mono ?_;rintro e v2 ⟨v,rfl,hc2,hv⟩;obtain ⟨Gx,ZT,Ja,rfl⟩:=hv.slice;have Hp:=zh hv;clear hv;replace BR:ah _ (w.heap.size+1) _ _:=ah.later aH hc2;(try simp only [List.setIfInBounds_toArray,List.set_cons_zero,List.set_cons_succ] at BR);replace bQ:=BR.cell;replace bL:=BR.free;replace jE:=BR.lt;replace B0:ah _ (w.heap.size) _ _:=ah.later aH hc2;(try simp only [List.setIfInBounds_toArray,List.set_cons_zero,List.set_cons_succ] at B0);replace cB0:=B0.cell;replace nE:=B0.free;replace lB0:=B0.lt;go_wp2_with fail
   refine (iy _ (q+1) true _ aI).mono ?_;rintro e v3 ⟨v,rfl,hc3,hv⟩;obtain ⟨JI,lHs,JZ,rfl,Hs⟩:=hv;replace Hs:=zh Hs;replace BR:=ah.later (BR) hc3;replace bQ:=BR.cell;replace bL:=BR.free;replace jE:=BR.lt;replace B0:=ah.later (B0) hc3;replace cB0:=B0.cell;replace nE:=B0.free;replace lB0:=B0.lt;go_wp2_with fail
   have HE:Hid (kM (q+1) true=z / (d:Int)):=by
    rw [Lm HD.out hz,Er.out,Eq.out,if_neg HR0.out];rfl
   refine dG rfl rfl aH Tryz.underlying106 rfl zk ?_;exact ⟨_,rfl,au,(gN.iL aI).cast HE.out⟩
 ·have g1:decide (z<0)=false:=decide_eq_false hz;go_enter Tryz.func247,Tryz.ntmps247
  go_wp2_with fail
  refine ((ji _ _ z.natAbs d _ aI aI HD.out KZ.out).mono (by rw [Eq.out,Er.out];exact fun _ _ h=>h)).mono ?_;rintro e v1 ⟨v,vr,rfl,hc1,hv,sH⟩;obtain ⟨xI,Rm,xR,rfl⟩:=hv.slice;have Hq:=zh hv;clear hv;obtain ⟨aW7,bq8,bh3,rfl⟩:=sH.slice;have Hqr:=zh sH;clear sH;have BR:=ah.later (ah.qN _ _ _ _) hc1;have bQ:=BR.cell;have bL:=BR.free;have jE:=BR.lt;have B0:=ah.later (ah.alloc (ah.new _ _ _) _) hc1;have cB0:=B0.cell;have nE:=B0.free;have lB0:=B0.lt;go_wp2_with fail
  refine (iy _ q false _ aI).mono ?_;rintro e v3 ⟨v,rfl,hc3,hv⟩;obtain ⟨JI,lHs,JZ,rfl,Hs⟩:=hv;replace Hs:=zh Hs;replace BR:=ah.later (BR) hc3;replace bQ:=BR.cell;replace bL:=BR.free;replace jE:=BR.lt;replace B0:=ah.later (B0) hc3;replace cB0:=B0.cell;replace nE:=B0.free;replace lB0:=B0.lt;go_wp2_with fail
  have HE:Hid (kM q false=z / (d:Int)):=by
   have h1:=Eq.out;have h2:(z.natAbs:Int)=z:=by omega
   rw [← h2,← h1]
   show ((z.natAbs / d:Nat):Int)=_
   rw [Int.natCast_ediv]
  refine dG rfl rfl aH Tryz.underlying106 rfl zk ?_;exact ⟨_,rfl,au,(gN.iL aI).cast HE.out⟩
theorem an3 {n m d:Nat} {z:Int} (hn:sz 1000000000 n≤1000000) (hs:sz 1000000000 m≤1000000) (hd:sz 1000000000 d≤1000000) (hz:z.natAbs≤n*(m*2)+d) :
  sz 1000000000 (m*2)≤1000001∧sz 1000000000 (n*(m*2))≤2000001∧sz 1000000000 z.natAbs≤2000002∧sz 1000000000 (d*2)≤1000001:=by
 have h2:=bH (B:=1000000000) zo 1 2 zo;have h3:=oM (B:=1000000000) zo m 2;have h4:=oM (B:=1000000000) zo n (m*2);have h5:=oM (B:=1000000000) zo d 2;have h6:=Bh (B:=1000000000) zo (n*(m*2)) d;have h7:=jO (B:=1000000000) zo hz;refine ⟨by omega,by omega,by omega,by omega⟩
theorem an4 (x y:Value) (q:Rat) (m:Nat) (w:World) (hx:jc w x q) (hy:aT w y m) (kn:sz 1000000000 q.num.natAbs≤1000000) (kd:sz 1000000000 q.den≤1000000) (km:sz 1000000000 m≤1000000) :
  Calls Tryz.prog 189 #[x,y] w (fun e w'=>∃ r,e= .returned r∧Below w.heap.size w w'∧gN w' r (aQ.kH (q.num*(m:Int)) q.den)):=by
 obtain ⟨Po,lH,Qp,pbH,mH,cbH,rfl,H,Hd⟩:=hx;replace H:=zh H;replace Hd:=zh Hd;obtain ⟨paG,lG,caG,rfl⟩:=hy.slice;have G:=zh hy;clear hy;have hd:0<q.den:=q.den_pos;have HZ:=zh (an3 (z:=q.num*((m*2:Nat):Int)+(q.den:Int)) kn km kd (by have h1:=Int.natAbs_add_le (q.num*((m*2:Nat):Int)) (q.den:Int);rw [Int.natAbs_mul,Int.natAbs_natCast,Int.natAbs_natCast] at h1;exact h1))
 have HE:Hid ((q.num*((m*2:Nat):Int)+(q.den:Int)) / ((q.den*2:Nat):Int)=aQ.kH (q.num*(m:Int)) q.den):=by
  refine zh ?_;unfold aQ.kH;rw [Int.natCast_mul,Int.natCast_mul,Int.mul_comm 2 (q.num*(m:Int)),Int.mul_assoc,Int.mul_comm 2 (q.den:Int)];rfl
 have KN:=zh kn;have KD:=zh kd;have KM:=zh km;have HD:=zh hd;have KM1:Hid (sz 1000000000 (q.num*((m*2:Nat):Int)).natAbs≤2000001):=zh (by rw [Int.natAbs_mul,Int.natAbs_natCast];exact HZ.out.2.1);have KD1:Hid (sz 1000000000 (kM q.den false).natAbs≤1000000):=zh (by rw [nu];exact kd);have HS:Hid (kM q.den false=(q.den:Int)):=zh rfl;obtain ⟨r,Er⟩:∃ y:Int,Hid (aQ.kH (q.num*(m:Int)) q.den=y):=⟨_,zh rfl⟩;rw [Er.out] at HE ⊢;obtain ⟨n,En⟩:∃ y:Int,Hid (q.num=y):=⟨_,zh rfl⟩;obtain ⟨d,Ed⟩:∃ y:Nat,Hid (q.den=y):=⟨_,zh rfl⟩;rw [En.out] at H HE KN KM1 HZ ⊢;rw [Ed.out] at Hd HE KD KD1 HS HD HZ;obtain ⟨k,Ek⟩:∃ y:Nat,Hid (m*2=y):=⟨_,zh rfl⟩;obtain ⟨e,Ee⟩:∃ y:Nat,Hid (d*2=y):=⟨_,zh rfl⟩;obtain ⟨y,Ey⟩:∃ y:Int,Hid (n*(k:Int)+kM d false=y):=⟨_,zh rfl⟩;rw [Ek.out] at HE KM1 HZ;rw [Ee.out] at HE HZ;rw [← HS.out,Ey.out] at HE HZ;have HD2:Hid (0<e):=zh (by have:=HD.out;have:=Ee.out;omega)
 clear kn kd km hd;go_enter Tryz.func189,Tryz.ntmps189
 go_wp2_with fail
 have HL:Hid _:=zh (aT.lit (w:=(w.alloc (.cells #[.slice Po lH Qp,.bool (decide (n<0)),.slice pbH mH cbH] 108)).alloc (.cells #[.slice none 0 0,.bool false] 106)) (d:=2) zo zo);simp at HL
 refine aC [(.pure,0),(.read,1),(.pure,2),(.pure,3),(.pure,6),(.read,7),(.ext,4),(.ext,5),(.ext,8),(.ext,9),(.alloc #[.slice none 0 0,.bool false] 106,10),(.fin,11)] zk zk zR zP ?_;refine zV ?_;refine aL rfl rfl (fun w1 hb1 J hJ=>?_);go_simp;replace H:=zh (aT.carry H.out aI hb1);replace Hd:=zh (aT.carry Hd.out aI hb1);replace HL:=zh (aT.carry HL.out aI hb1);have BR:=ah.later (ah.drew (ah.alloc (ah.qN _ _ _ _) _)) hb1;have bQ:=BR.cell;have bL:=BR.free;have jE:=BR.lt;have B0:=ah.later (ah.drew (ah.alloc (ah.alloc (ah.new _ _ _) _) _)) hb1;have cB0:=B0.cell;have nE:=B0.free;have lB0:=B0.lt;refine ((lW _ _ m 2 _ aI aI (Nat.le_trans KM.out zo) (by have:=bH (B:=1000000000) zo 1 2 zo;omega)).mono (by rw [Ek.out];exact fun _ _ h=>h)).mono ?_;rintro e v1 ⟨v,rfl,hc1,hv⟩;obtain ⟨aW8,lHa,bh4,rfl⟩:=hv.slice;have Ha:=zh hv;clear hv
 replace H:=zh (aT.later H.out hc1);replace Hd:=zh (aT.later Hd.out hc1);replace HL:=zh (aT.later HL.out hc1);replace BR:=ah.later (BR) hc1;replace bQ:=BR.cell;replace bL:=BR.free;replace jE:=BR.lt;replace B0:=ah.later (B0) hc1;replace cB0:=B0.cell;replace nE:=B0.free;replace lB0:=B0.lt;refine hJ _ _ hc1 ?_;clear hJ J;refine aL rfl rfl (fun w2 hb2 J hJ=>?_);go_simp;replace Ha:=zh (aT.later Ha.out hb2);replace H:=zh (aT.later H.out hb2);replace Hd:=zh (aT.later Hd.out hb2);replace HL:=zh (aT.later HL.out hb2);replace BR:=ah.later (BR) hb2;replace bQ:=BR.cell;replace bL:=BR.free;replace jE:=BR.lt;replace B0:=ah.later (B0) hb2;replace cB0:=B0.cell;replace nE:=B0.free;replace lB0:=B0.lt;refine (uL _ _ n k _ (gN.iL aI) aI (Nat.le_trans KN.out zo) (Nat.le_trans HZ.out.1 zo)).mono ?_;rintro e v2 ⟨v,rfl,hc2,hv⟩
 obtain ⟨bo9,lHb,bt8,rfl,Hb⟩:=hv;replace Hb:=zh Hb;replace Ha:=zh (aT.later Ha.out hc2);replace H:=zh (aT.later H.out hc2);replace Hd:=zh (aT.later Hd.out hc2);replace HL:=zh (aT.later HL.out hc2);replace BR:=ah.later (BR) hc2;replace bQ:=BR.cell;replace bL:=BR.free;replace jE:=BR.lt;replace B0:=ah.later (B0) hc2;replace cB0:=B0.cell;replace nE:=B0.free;replace lB0:=B0.lt;refine hJ _ _ hc2 ?_;clear hJ J;refine aL rfl rfl (fun w3 hb3 J hJ=>?_);go_simp;replace Hb:=zh (aT.later Hb.out hb3);replace Hd:=zh (aT.later Hd.out hb3);replace HL:=zh (aT.later HL.out hb3);replace BR:=ah.later (BR) hb3;replace bQ:=BR.cell;replace bL:=BR.free;replace jE:=BR.lt;replace B0:=ah.later (B0) hb3;replace cB0:=B0.cell;replace nE:=B0.free;replace lB0:=B0.lt;refine (iy _ d false _ aI).mono ?_;rintro e v3 ⟨v,rfl,hc3,hv⟩;obtain ⟨bo8,lHc,bt7,rfl,Hc⟩:=hv;replace Hc:=zh Hc
 replace Hb:=zh (aT.later Hb.out hc3);replace Hd:=zh (aT.later Hd.out hc3);replace HL:=zh (aT.later HL.out hc3);replace BR:=ah.later (BR) hc3;replace bQ:=BR.cell;replace bL:=BR.free;replace jE:=BR.lt;replace B0:=ah.later (B0) hc3;replace cB0:=B0.cell;replace nE:=B0.free;replace lB0:=B0.lt;refine hJ _ _ hc3 ?_;clear hJ J;refine aL rfl rfl (fun w4 hb4 J hJ=>?_);go_simp;replace Hd:=zh (aT.later Hd.out hb4);replace HL:=zh (aT.later HL.out hb4);replace Hc:=zh (aT.later Hc.out hb4);replace BR:=ah.later (BR) hb4;replace bQ:=BR.cell;replace bL:=BR.free;replace jE:=BR.lt;replace B0:=ah.later (B0) hb4;replace cB0:=B0.cell;replace nE:=B0.free;replace lB0:=B0.lt;refine ((Bj _ _ (n*(k:Int)) (kM d false) _ (gN.iL aI) (gN.iL aI) (Nat.le_trans KM1.out zo) (Nat.le_trans KD1.out zo)).mono (by rw [Ey.out];exact fun _ _ h=>h)).mono ?_;rintro e v4 ⟨v,rfl,hc4,hv⟩
 obtain ⟨JI,lHs,JZ,rfl,Hs⟩:=hv;replace Hs:=zh Hs;replace Hd:=zh (aT.later Hd.out hc4);replace HL:=zh (aT.later HL.out hc4);replace Hc:=zh (aT.later Hc.out hc4);replace BR:=ah.later (BR) hc4;replace bQ:=BR.cell;replace bL:=BR.free;replace jE:=BR.lt;replace B0:=ah.later (B0) hc4;replace cB0:=B0.cell;replace nE:=B0.free;replace lB0:=B0.lt;refine hJ _ _ hc4 ?_;clear hJ J;refine jK rfl (fun b w5 hw5 hNb bO1 hAb hxb=>?_);go_simp;replace hxb:ah _ _ _ _:=hxb;have hWb:w.heap.size≤b:=(by first|omega|exact Nat.le_trans (Below.size (B:=w.heap.size) au) hNb);refine dK [_] rfl (fun w6 hb6=>?_);replace hxb:=ah.later (hxb) hb6;replace bt3:=hxb.cell;replace bt2:=hxb.free;replace bq4:=hxb.lt;have h46:Below v4.heap.size v4 w6:=au;replace BR:=ah.later (BR) h46;replace bQ:=BR.cell;replace bL:=BR.free;replace jE:=BR.lt;replace Hs:=zh (aT.later Hs.out h46)
 replace B0:=ah.later (B0) h46;replace cB0:=B0.cell;replace nE:=B0.free;replace lB0:=B0.lt;replace Hd:=zh (aT.later Hd.out h46);replace HL:=zh (aT.later HL.out h46);have hNe:w.heap.size+1+1+1≤b:=hNb;have n0:w.heap.size≠b:=by omega
 have n1:w.heap.size+1≠b:=by omega
 have h6:Below w.heap.size w w6:=au;go_wp2_with fail
 obtain ⟨w7,E7⟩:∃ x,(w6.setCell ⟨b,0,none⟩ (.slice JI lHs JZ)).setCell ⟨b,1,none⟩ (.bool (decide (y<0)))=x:=⟨_,rfl⟩
 have h7:Below w.heap.size w w7:=by
  rw [← E7];have:w.heap.size≤b:=by omega
  exact (h6.setCell this _).setCell this _
 replace BR:ah w7 (w.heap.size+1) #[.slice none 0 0,.bool false] 106:=by rw [← E7];exact (BR.setOther _ n1).setOther _ n1
 replace B0:ah w7 w.heap.size #[.slice Po lH Qp,.bool (decide (n<0)),.slice pbH mH cbH] 108:=by rw [← E7];exact (B0.setOther _ n0).setOther _ n0
 have ak7:∀ {v:Value} {x:Nat},aT w6 v x→aT w7 v x:=fun h=>by rw [← E7];exact (h.setOther hxb zd _ _).setOther (hxb.set 0 _) zd _ _
 replace Hs:=zh (ak7 Hs.out);replace Hd:=zh (ak7 Hd.out);replace HL:=zh (ak7 HL.out);replace hxb:ah w7 b #[.slice JI lHs JZ,.bool (decide (y<0))] 106:=by rw [← E7];exact (hxb.set 0 _).set 1 _
 rw [E7];clear E7 ak7 h6 h46 hb6 hb1 hc1 hc2 hc3 hc4;have bQ:=ah.cell BR;have jE:=ah.lt BR;have bL:=ah.free BR;have cB0:=ah.cell B0;have lB0:=ah.lt B0;have nE:=ah.free B0;have bt3:=ah.cell hxb;have bq4:=ah.lt hxb;have bt2:=ah.free hxb;refine aC [(.read,0),(.pure,1),(.read,2),(.pure,3),(.ext,4),(.ext,5),(.fin,6)] zk zk zR zP ?_;refine zV ?_;refine aL rfl rfl (fun w5 hb5 J hJ=>?_);go_simp;replace Hs:=zh (aT.carry Hs.out aI hb5);replace BR:ah _ (w.heap.size+1) _ _:=ah.later aH hb5;(try simp only [List.setIfInBounds_toArray,List.set_cons_zero,List.set_cons_succ] at BR);replace bQ:=BR.cell;replace bL:=BR.free;replace jE:=BR.lt;refine ((lW _ _ d 2 _ aI aI (Nat.le_trans KD.out zo) (by have:=bH (B:=1000000000) zo 1 2 zo;omega)).mono (by rw [Ee.out];exact fun _ _ h=>h)).mono ?_;rintro e v5 ⟨v,rfl,rE,hv⟩
 obtain ⟨aW8,lHa,bh4,rfl⟩:=hv.slice;have Ha:=zh hv;clear hv;replace Hs:=zh (aT.later Hs.out rE);replace BR:=ah.later (BR) rE;replace bQ:=BR.cell;replace bL:=BR.free;replace jE:=BR.lt;refine hJ _ _ rE ?_;clear hJ J;refine aL rfl rfl (fun w6 hb6 J hJ=>?_);go_simp;replace BR:=ah.later (BR) hb6;replace bQ:=BR.cell;replace bL:=BR.free;replace jE:=BR.lt;refine ((ad7 _ _ y e _ (gN.iL aI) aI HD2.out (Nat.le_trans HZ.out.2.2.1 zo) (Nat.le_trans HZ.out.2.2.2 zo)).mono (by rw [HE.out];exact fun _ _ h=>h)).mono ?_;rintro e v6 ⟨v,rfl,hc6,hv⟩;obtain ⟨Na,lHr,NH,rfl,Hr⟩:=hv;replace Hr:=zh Hr;replace BR:=ah.later (BR) hc6;replace bQ:=BR.cell;replace bL:=BR.free;replace jE:=BR.lt;refine hJ _ _ hc6 ?_;clear hJ J;refine dK [_] rfl (fun w9 DW=>?_);replace BR:=ah.later (BR) DW;replace bQ:=BR.cell;replace bL:=BR.free;replace jE:=BR.lt;go_wp2_with fail
 refine dG rfl rfl aH Tryz.underlying106 rfl zk ?_;exact ⟨_,rfl,au,gN.iL aI⟩
end Go.Proofs.fM
namespace Go.Dec
open Go Go.Lib
theorem Sv (n:Nat):parseUintB 64 (decDigits n)=if n≤18446744073709551615 then .ok n else .range:=by
 obtain ⟨c,r,hc⟩:∃ c r,decDigits n=c::r:=by
  cases h:decDigits n with
  | nil=>exact absurd h (wS n)
  | cons c r=>exact ⟨c,r,rfl⟩
 have hd:=pI n;have hn:=qy n;rw [hc] at hd hn ⊢
 have hu:parseUintB 64 (c::r)=parseUintM 18446744073709551615 0 (c::r):=by
  unfold parseUintB;rw [if_neg zi]
 rw [hu,vG _ _ hd zo,hn,Nat.zero_mul,Nat.zero_add]
theorem Pn (z:Int):parseIntB 64 (itoa z)=if -9223372036854775808≤z∧z<9223372036854775808 then .ok z else .range:=by
 rcases Int.lt_or_le z 0 with h|h
 ·obtain ⟨n,rfl⟩:∃ n:Nat,z= -(n:Int):=⟨z.natAbs,by omega⟩
  have hi:itoa (-(n:Int))=45::decDigits n:=by
   unfold itoa;rw [if_pos h,Int.natAbs_neg,Int.natAbs_natCast]
  rw [hi,parseIntB_minus,Sv];have e:(2:Nat)^(64 - 1)=9223372036854775808:=by decide
  rw [e]
  by_cases h1:n≤18446744073709551615
  ·rw [if_pos h1];unfold signedC
   by_cases h2:9223372036854775808<n
   ·simp only;rw [if_pos h2,if_neg zo]
   ·simp only;rw [if_neg h2,if_pos zo]
  ·rw [if_neg h1,if_neg zo];rfl
 ·obtain ⟨n,rfl⟩:∃ n:Nat,z=(n:Int):=⟨z.natAbs,by omega⟩;rw [Gv]
  by_cases h2:n<9223372036854775808
  ·rw [if_pos h2,if_pos zo]
  ·rw [if_neg h2,if_neg zo]
end Go.Dec
namespace Go.Proofs.whole
open Go Go.RowKit Go.SW Go.Num Go.Mem Go.Proofs Go.Dec Go.jQ
def aB5 (z:Int):Value:=if -9223372036854775808≤z∧z<9223372036854775808 then .tuple #[.int .i64 z,.int .i64 0] else .tuple #[.int .i64 0,.int .i64 6]
theorem Xi (z:Int) (hs:(Lib.itoa z).length≤601) (w:World) (he:Er w) :
  Calls Tryz.prog 246 #[dP z,.int .i64 10,.int .i64 64] w (fun e w'=>(if -9223372036854775808≤z∧z<9223372036854775808 then e= .returned (.tuple #[.int .i64 z,.nilIface]) else ∃ T p,e= .returned (.tuple #[.int .i64 (Lib.intSat 64 (Lib.itoa z)),.iface T (.pointer (some p))]))∧Below w.heap.size w w'):=by
 have hz:(⟨(Lib.itoa z).toArray⟩:ByteArray).size≤601:=hs;have hp:=Pn z
 by_cases h: -9223372036854775808≤z∧z<9223372036854775808
 ·rw [if_pos h] at hp;refine (Tryz.strconv_ParseInt_10_at64_ok ⟨(Lib.itoa z).toArray⟩ zo z hp w).mono ?_;rintro e w1 ⟨rfl,hw⟩;refine ⟨by rw [if_pos h],?_⟩
  rcases hw with rfl|⟨t,rfl⟩
  ·exact Below.refl _ _
  ·exact Lib.bytesWorld_below _ _ _
 ·rw [if_neg h] at hp;obtain ⟨tp,p,h1,h2⟩:=he;have hc:=World.var?_cell (P:=Tryz.prog) (w:=w) Tryz.laysC174.m16 h1 0;refine (Tryz.strconv_ParseInt_10_at64_range ⟨(Lib.itoa z).toArray⟩ zo hp (.iface tp p) w hc (Or.inr ⟨tp,p,rfl⟩)).mono ?_;rintro e w1 ⟨N,rfl, -, -, hb⟩;refine ⟨?_,hb⟩;rw [if_neg h];exact ⟨_,_,rfl⟩
theorem av7 (z:Int) (hn:nC z.natAbs=true) (w:World) (he:Er w) :
  Calls Tryz.prog 188 #[dP z] w (fun e w'=>e= .returned (aB5 z)∧Below w.heap.size w w'):=by
 have hd:(Lib.decDigits z.natAbs).length≤600:=iN.1 hn
 have hi:(Lib.itoa z).length≤601:=by
  unfold Lib.itoa
  by_cases h:z<0
  ·rw [if_pos h,List.length_cons];omega
  ·rw [if_neg h,show z.toNat=z.natAbs by omega];omega
 have hw:(whole (Lib.itoa z)).isSome=true:=by rw [iF hd];rfl
 have HC:Hid (∀ W:World,Calls Tryz.prog 221 #[dP z] W (fun e w'=>e= .returned (.int .i64 0)∧Below W.heap.size W w')):=zh (by
  intro W;have:=nT ⟨(Lib.itoa z).toArray⟩ W;rw [show (⟨(Lib.itoa z).toArray⟩:ByteArray).data.toList=Lib.itoa z from rfl,hw] at this;exact this)
 have HP:=zh (fun W h=>Xi z hi W h);have HE:=zh he;unfold aB5;clear hd hi hw he hn;unfold dP at *;generalize Lib.itoa z=t at *
 by_cases h: -9223372036854775808≤z∧z<9223372036854775808
 ·simp only [if_pos h] at HP ⊢;go_enter Tryz.func188,Tryz.ntmps188
  go_wp2_with fail
  refine (HC.out _).mono ?_;rintro e w1 ⟨rfl,hb1⟩;have HB1:=zh hb1;clear hb1;go_wp2_with fail
  refine (HP.out _ (HE.out.later HB1.out)).mono ?_;rintro e w2 ⟨rfl,hb2⟩;have hw:=Bt HB1.out hb2;clear hb2 HB1;go_wp2_with fail
  go_ret2
  exact ⟨rfl,hw⟩
 ·simp only [if_neg h] at HP ⊢;go_enter Tryz.func188,Tryz.ntmps188
  go_wp2_with fail
  refine (HC.out _).mono ?_;rintro e w1 ⟨rfl,hb1⟩;have HB1:=zh hb1;clear hb1;go_wp2_with fail
  refine (HP.out _ (HE.out.later HB1.out)).mono ?_;rintro e w2 ⟨⟨T,p,rfl⟩,hb2⟩;have hw:=Bt HB1.out hb2;clear hb2 HB1;go_wp2_with fail
  go_ret2
  exact ⟨rfl,hw⟩
end Go.Proofs.whole
namespace Go.Proofs.fM
open Go Go.RowKit Go.SW Go.Num Go.Mem Go.Proofs Go.Dec Go.jQ
def Nh (z:Int):Bool:=decide (-9223372036854775808≤z∧z<9223372036854775808)
theorem av6 (z:Int) (w:World) (he:whole.Er w) :
  Calls Tryz.prog 188 #[dP z] w (fun e w'=>(∃ x k,(k=0↔Nh z=true)∧(Nh z=true→x=z)∧e= .returned (.tuple #[.int .i64 x,.int .i64 k]))∧Below w.heap.size w w'):=by
 cases h:nC z.natAbs with
 | true =>
  refine (whole.av7 z h w he).mono ?_;rintro e w1 ⟨rfl,hb⟩;refine ⟨?_,hb⟩;unfold whole.aB5 Nh
  by_cases c: -9223372036854775808≤z∧z<9223372036854775808
  ·rw [if_pos c,decide_eq_true c];exact ⟨z,0,by simp,fun _=>rfl,rfl⟩
  ·rw [if_neg c,decide_eq_false c];exact ⟨0,6,by simp,(fun h=>by cases h),rfl⟩
 | false =>
  have hn:whole (Lib.itoa z)=none:=by
   cases e:whole (Lib.itoa z) with
   | none=>rfl
   | some n =>
    obtain ⟨h1,h2⟩:=rP e;rw [← PG h1,← iN,h] at h2;cases h2
  have hr:Nh z=false:=by
   unfold Nh;refine decide_eq_false fun c=>?_
   have h3:nC z.natAbs=true:=by
    unfold nC;refine decide_eq_true (Nat.lt_of_lt_of_le (show z.natAbs<9223372036854775809 by omega) ?_)
    decide+kernel
   rw [h] at h3;cases h3
  have HC:=zh (fun W=>IZ (s:=⟨(Lib.itoa z).toArray⟩) hn W);rw [hr];clear hn hr h;unfold dP;generalize Lib.itoa z=t at *;go_enter Tryz.func188,Tryz.ntmps188
  go_wp2_with fail
  refine (HC.out _).mono ?_;rintro e w1 ⟨rfl,hb1⟩;go_wp2_with fail
  go_ret2
  exact ⟨⟨0,10,by simp,(fun h=>by cases h),rfl⟩,hb1⟩
theorem an6 (N:Int) (d:Nat):(aQ.kH N d).natAbs≤2*N.natAbs+d:=by
 unfold aQ.kH;have h1:=Int.natAbs_ediv_le_natAbs (2*N+(d:Int)) (2*(d:Int));have h2:=Int.natAbs_add_le (2*N) (d:Int);rw [Int.natAbs_mul,Int.natAbs_natCast] at h2;omega
theorem Yj (s t:ByteArray) (k:Int) (h:rd ⟨s,t⟩=none) (w:World) :
  Calls Tryz.prog 114 #[.agg #[.string s,.string t],.int .i64 k] w (fun e w'=>e= .returned (.tuple #[.int .i64 0,.int .i64 20])∧Below w.heap.size w w'):=by
 have HR:=zh (jy h);clear h;go_enter Tryz.func114,Tryz.ntmps114
 go_wp2_with fail
 refine (HR.out _).mono ?_;rintro e v1 ⟨rfl,hc1⟩;have BR:=ah.later (ah.new _ _ _) hc1;have bQ:=BR.cell;have bL:=BR.free;have jE:=BR.lt;go_wp2_with fail
 go_ret2
 exact ⟨rfl,au⟩
theorem Yi (s t:ByteArray) (k:Nat) (q:Rat) (h:rd ⟨s,t⟩=some q) (k1:1≤k) (k2:(k:Int)≤1000000000000) (w:World) (ht:jw.Pow w) (he:whole.Er w) :
  Calls Tryz.prog 114 #[.agg #[.string s,.string t],.int .i64 (k:Int)] w (fun e w'=>e= .returned (if Nh (aQ.kH (q.num*(k:Int)) q.den) then .tuple #[.int .i64 (aQ.kH (q.num*(k:Int)) q.den),.int .i64 0] else .tuple #[.int .i64 0,.int .i64 6])∧Below w.heap.size w w'):=by
 have HR:=zh (iW h);have KP:=mJ (oZ h).2;have Jz:Hid (sz 1000000000 k≤1000000):=zh (by have:=bH (B:=1000000000) zo 2 k zo;omega);have HKN:Hid (sz 1000000000 q.num.natAbs≤1000000):=zh (Nat.le_trans KP.1 zo);have HKD:Hid (sz 1000000000 q.den≤1000000):=zh (Nat.le_trans KP.2 zo)
 have HZ:Hid (sz 1000000000 (aQ.kH (q.num*(k:Int)) q.den).natAbs≤1099511627776):=by
  refine zh ?_;have h1:=jO (B:=1000000000) zo (an6 (q.num*(k:Int)) q.den);have h2:=Bh (B:=1000000000) zo (2*(q.num*(k:Int)).natAbs) q.den;have h3:=oM (B:=1000000000) zo 2 (q.num*(k:Int)).natAbs;have h4:=oM (B:=1000000000) zo q.num.natAbs k;have h5:=bH (B:=1000000000) zo 1 2 zo;rw [← Int.natAbs_natCast k,← Int.natAbs_mul,Int.natAbs_natCast k] at h4;have:=Jz.out;have:=HKN.out;have:=HKD.out;omega
 have HT:=zh ht;have HE:=zh he;have g1:decide ((k:Int)<1)=false:=decide_eq_false zo;have g2:decide ((1000000000000:Int)<(k:Int))=false:=decide_eq_false zo
 have g3:IntKind.u64.wrap (k:Int)=(k:Int):=by
  simp [IntKind.wrap,IntKind.bits,IntKind.signed]
  omega
 obtain ⟨z,Ez⟩:∃ y:Int,Hid (aQ.kH (q.num*(k:Int)) q.den=y):=⟨_,zh rfl⟩;rw [Ez.out] at HZ ⊢;obtain ⟨R,ER⟩:∃ y:Value,Hid ((if Nh z then .tuple #[.int .i64 z,.int .i64 0] else .tuple #[.int .i64 0,.int .i64 6]:Value)=y):=⟨_,zh rfl⟩;rw [ER.out];have HK2:Hid (k≤18446744073709551615):=zh zo;clear ht he h KP k1 k2;go_enter Tryz.func114,Tryz.ntmps114
 go_wp2_with fail
 refine (HR.out _).mono ?_;rintro e v1 ⟨v,rfl,hc1,hv⟩;obtain ⟨xI,Rm,xR,zN,Vu,Am,rfl,Hq,rM⟩:=hv;replace Hq:=zh Hq;replace rM:=zh rM;have BR:=ah.later (ah.new _ _ _) hc1;have bQ:=BR.cell;have bL:=BR.free;have jE:=BR.lt;go_wp2_with fail
 refine aC [(.read,0),(.pure,1),(.pure,2),(.ext,3),(.ext,4),(.ext,5),(.ext,6),(.pure,7),(.pure,8),(.pure,9),(.fin,10),(.fin,11)] zk zk zR zP ?_;refine zV ?_;refine aL rfl rfl (fun w3 hb3 J hJ=>?_);go_simp;replace Hq:=zh (aT.carry Hq.out aI hb3);replace rM:=zh (aT.carry rM.out aI hb3);refine (pF k _ HK2.out).mono ?_;rintro e v3 ⟨v,rfl,hc3,hv⟩;obtain ⟨JI,lHs,JZ,rfl⟩:=hv.slice;have Hs:=zh hv;clear hv;replace Hq:=zh (aT.later Hq.out hc3);replace rM:=zh (aT.later rM.out hc3);refine hJ _ _ hc3 ?_;clear hJ J;refine aL rfl rfl (fun w4 hb4 J hJ=>?_);go_simp;refine ((an4 _ _ q k _ (jc.of aI aI) aI HKN.out HKD.out Jz.out).mono (by rw [Ez.out];exact fun _ _ h=>h)).mono ?_;rintro e v4 ⟨v,rfl,hc4,hv⟩;obtain ⟨bK5,lHn,bQ0,rfl,Hn⟩:=hv;replace Hn:=zh Hn;refine hJ _ _ hc4 ?_;clear hJ J;refine aL rfl rfl (fun w5 hb5 J hJ=>?_);go_simp
 refine (UZ _ z _ (gN.iL aI) HZ.out (HT.out.later au)).mono ?_;rintro e v5 ⟨rfl,rE⟩;refine hJ _ _ rE ?_;clear hJ J;refine aL rfl rfl (fun w6 hb6 J hJ=>?_);go_simp;refine (av6 z _ (HE.out.later au)).mono ?_;rintro e v6 ⟨⟨x,c,h1,h2,rfl⟩,hc6⟩;refine hJ _ _ hc6 ?_;clear hJ J;refine zV ?_;refine dK [_,_] rfl (fun w7 qZ=>?_);cases hz:Nh z with
 | true =>
  obtain rfl:=h1.2 hz;obtain rfl:=h2 hz;clear h1 h2;have hR: .tuple #[.int .i64 x,.int .i64 0]=R:=by rw [← ER.out,hz];rfl
  go_wp2_with fail
  go_ret2
  exact ⟨congrArg Ending.returned hR,au⟩
 | false =>
  have hc:decide (c=0)=false:=decide_eq_false fun e=>by rw [h1.1 e] at hz;cases hz
  have hn:¬ c=0:=of_decide_eq_false hc;clear h1 h2;have hR: .tuple #[.int .i64 0,.int .i64 6]=R:=by rw [← ER.out,hz];rfl
  go_wp2_with fail
  all_goals go_ret2
  all_goals exact ⟨congrArg Ending.returned hR,au⟩
end Go.Proofs.fM
namespace Go.Proofs.aQ
open Go Go.RowKit Go.SW Go.Num Go.Mem Go.Proofs Go.Dec Go.jQ
theorem an5 (z:Int) {E:Nat} (hE:0<E) (hz:z.natAbs<9223372036854775809) (hE2:E<9223372036854775809) :
  ∃ s t,Fr.res (qE z (E:Int))= .tuple #[.agg #[.string s,.string t],.int .i64 0]∧rd ⟨s,t⟩=some ((z:Rat) / ((E:Nat):Rat)):=by
 have hk:wD ((z:Rat) / ((E:Nat):Rat))=true:=by
  rw [← Rat.mkRat_eq_div];have hp:=zX z hE;have ht:9223372036854775809≤kL 600:=by unfold kL;decide+kernel
  unfold wD nC;rw [Bool.and_eq_true];refine ⟨decide_eq_true ?_,decide_eq_true ?_⟩
  ·rw [hp.1,nu];have:=Nat.div_le_self z.natAbs (z.natAbs.gcd E);omega
  ·rw [hp.2];have:=Nat.div_le_self E (z.natAbs.gcd E);omega
 refine ⟨(Fr.of ((z:Rat) / ((E:Nat):Rat))).n,(Fr.of ((z:Rat) / ((E:Nat):Rat))).d,?_,oQ hk⟩;unfold qE wr;rw [if_neg zo,Rat.intCast_natCast,if_pos hk];rfl
theorem bq1 (o:Int):∃ m:Int,(m=if o<0 then o else 0)∧(∀ (ts:Array TypeId) (t:TypeId) (W:World),(Builtin.min_ ts t #[.int .i64 o,.int .i64 0]).run Tryz.prog W= .ok (.int .i64 m) W):=by
 by_cases h:o<0
 ·refine ⟨o,by rw [if_pos h],fun ts t W=>?_⟩;have h1:¬ (0:Int)<o:=by omega
  rw [run_min_int2];simp [h1]
 ·refine ⟨0,by rw [if_neg h],fun ts t W=>?_⟩;rw [run_min_int2]
  by_cases h1:(0:Int)<o
  ·simp [h1]
  ·obtain rfl:o=0:=by omega
   simp
theorem bq3 (o:Int):∃ m:Int,(m=if 0<o then o else 0)∧(∀ (ts:Array TypeId) (t:TypeId) (W:World),(Builtin.max_ ts t #[.int .i64 o,.int .i64 0]).run Tryz.prog W= .ok (.int .i64 m) W):=by
 by_cases h:0<o
 ·refine ⟨o,by rw [if_pos h],fun ts t W=>?_⟩;have h1:¬ o<(0:Int):=by omega
  rw [run_max_int2];simp [h1]
 ·refine ⟨0,by rw [if_neg h],fun ts t W=>?_⟩;rw [run_max_int2]
  by_cases h1:o<(0:Int)
  ·simp [h1]
  ·obtain rfl:o=0:=by omega
   simp
theorem Jd (s t:ByteArray) (k:Int) (hk:¬ k=0) (w:World) (HN:Hid (∀ W,Below w.heap.size w W→Calls Tryz.prog 114 #[.agg #[.string s,.string t],.int .i64 1000000000000] W (fun e w'=>e= .returned (.tuple #[.int .i64 0,.int .i64 k])∧Below W.heap.size W w'))) :
  Calls Tryz.prog 36 #[.agg #[.string s,.string t]] w (fun e w'=>e= .returned (gZ ((0,0),k))∧Below w.heap.size w w'):=by
 unfold gZ;have hk0:decide (k=0)=false:=decide_eq_false hk;go_enter Tryz.func36,Tryz.ntmps36
 go_wp2_with fail
 refine (HN.out _ au).mono ?_;rintro e v1 ⟨rfl,hc1⟩;have BR:=ah.later (ah.qN _ _ _ _) hc1;have bQ:=BR.cell;have bL:=BR.free;have jE:=BR.lt;go_wp2_with fail
 refine aK rfl rfl aH Tryz.underlying40 rfl zk ?_;exact ⟨rfl,au⟩
theorem Qu (s t s1 t1:ByteArray) (z o:Int) (w:World) (ho: -1≤o∧o≤1) (HN:Hid (∀ W,Below w.heap.size w W→Calls Tryz.prog 114 #[.agg #[.string s,.string t],.int .i64 1000000000000] W (fun e w'=>e= .returned (.tuple #[.int .i64 z,.int .i64 0])∧Below W.heap.size W w')))
  (HO:Hid (∀ W,Below w.heap.size w W→Calls Tryz.prog 115 #[.int .i64 z,.int .i64 1000000000000] W (fun e w'=>e= .returned (.tuple #[.agg #[.string s1,.string t1],.int .i64 0])∧Below W.heap.size W w')))
  (HC:Hid (∀ W,Calls Tryz.prog 19 #[.agg #[.string s,.string t],.agg #[.string s1,.string t1]] W (fun e w'=>e= .returned (.tuple #[.int .i64 o,.int .i64 0])∧Below W.heap.size W w'))) :
  Calls Tryz.prog 36 #[.agg #[.string s,.string t]] w (fun e w'=>e= .returned (gZ (if jF z z then jR (z+(if o<0 then -1 else 0)) (z+(if 0<o then 1 else 0)) else ((0,0),6)))∧Below w.heap.size w w'):=by
 have HV:=zh (fun W=>nQ z z W);cases hb:jF z z with
 | false =>
  rw [if_neg zi];unfold gZ;rw [hb] at HV;clear hb ho;go_enter Tryz.func36,Tryz.ntmps36
  go_wp2_with fail
  refine (HN.out _ au).mono ?_;rintro e v1 ⟨rfl,hc1⟩;have BR:=ah.later (ah.qN _ _ _ _) hc1;have bQ:=BR.cell;have bL:=BR.free;have jE:=BR.lt;have B0:=ah.later (ah.alloc (ah.new _ _ _) _) hc1;have cB0:=B0.cell;have nE:=B0.free;have lB0:=B0.lt;go_wp2_with fail
  refine (HO.out _ au).mono ?_;rintro e v2 ⟨rfl,hc2⟩;replace BR:=ah.later (BR) hc2;replace bQ:=BR.cell;replace bL:=BR.free;replace jE:=BR.lt;replace B0:=ah.later (B0) hc2;replace cB0:=B0.cell;replace nE:=B0.free;replace lB0:=B0.lt;go_wp2_with fail
  refine (HC.out _).mono ?_;rintro e v3 ⟨rfl,hc3⟩;replace BR:ah _ (w.heap.size+1) _ _:=ah.later aH hc3;(try simp only [List.setIfInBounds_toArray,List.set_cons_zero,List.set_cons_succ] at BR);replace bQ:=BR.cell;replace bL:=BR.free;replace jE:=BR.lt;go_wp2_with fail
  refine (HV.out _).mono ?_;rintro e v4 ⟨rfl,hc4⟩;replace BR:=ah.later (BR) hc4;replace bQ:=BR.cell;replace bL:=BR.free;replace jE:=BR.lt;go_wp2_with fail
  refine aK rfl rfl aH Tryz.underlying40 rfl zk ?_;exact ⟨rfl,au⟩
 | true =>
  rw [if_pos rfl];rw [hb] at HV;obtain ⟨l,hl,hmin⟩:=bq1 o;obtain ⟨m,hm,hmax⟩:=bq3 o;have el:(if o<0 then (-1:Int) else 0)=l:=by rw [hl];by_cases h:o<0<;>simp only [if_pos,if_neg,h,if_true,if_false]<;>omega
  have em:(if 0<o then (1:Int) else 0)=m:=by rw [hm];by_cases h:0<o<;>simp only [if_pos,if_neg,h,if_true,if_false]<;>omega
  rw [el,em]
  have hr: -1000000000000000000≤z∧z≤1000000000000000000:=by
   unfold jF at hb;simp only [Bool.and_eq_true,decide_eq_true_eq] at hb;omega
  have hl2: -1≤l∧l≤0:=by rw [← el];by_cases h:o<0<;>simp [h]
  have hm2:0≤m∧m≤1:=by rw [← em];by_cases h:0<o<;>simp [h]
  have w1:IntKind.i64.wrap (z+l)=z+l:=by simp [IntKind.wrap,IntKind.bits,IntKind.signed];omega
  have w2:IntKind.i64.wrap (z+m)=z+m:=by simp [IntKind.wrap,IntKind.bits,IntKind.signed];omega
  have HM:=zh (fun W=>qz (z+l) (z+m) W);clear hb ho hl hm el em hr hl2 hm2;generalize jR (z+l) (z+m)=x at *;obtain ⟨⟨x1,x2⟩,x3⟩:=x;unfold gZ at *;simp only at *;go_enter Tryz.func36,Tryz.ntmps36
  go_wp2_with fail
  refine (HN.out _ au).mono ?_;rintro e v1 ⟨rfl,hc1⟩;have BR:=ah.later (ah.qN _ _ _ _) hc1;have bQ:=BR.cell;have bL:=BR.free;have jE:=BR.lt;have B0:=ah.later (ah.alloc (ah.new _ _ _) _) hc1;have cB0:=B0.cell;have nE:=B0.free;have lB0:=B0.lt;go_wp2_with fail
  refine (HO.out _ au).mono ?_;rintro e v2 ⟨rfl,hc2⟩;replace BR:=ah.later (BR) hc2;replace bQ:=BR.cell;replace bL:=BR.free;replace jE:=BR.lt;replace B0:=ah.later (B0) hc2;replace cB0:=B0.cell;replace nE:=B0.free;replace lB0:=B0.lt;go_wp2_with fail
  refine (HC.out _).mono ?_;rintro e v3 ⟨rfl,hc3⟩;replace BR:ah _ (w.heap.size+1) _ _:=ah.later aH hc3;(try simp only [List.setIfInBounds_toArray,List.set_cons_zero,List.set_cons_succ] at BR);replace bQ:=BR.cell;replace bL:=BR.free;replace jE:=BR.lt;go_wp2_with fail
  refine (HV.out _).mono ?_;rintro e v4 ⟨rfl,hc4⟩;replace BR:=ah.later (BR) hc4;replace bQ:=BR.cell;replace bL:=BR.free;replace jE:=BR.lt;go_wp2_with fail
  refine (HM.out _).mono ?_;rintro e v5 ⟨rfl,rE⟩;replace BR:=ah.later (BR) rE;replace bQ:=BR.cell;replace bL:=BR.free;replace jE:=BR.lt;go_wp2_with fail
  refine aK rfl rfl aH Tryz.underlying40 rfl zk ?_;exact ⟨rfl,au⟩
def mP (a:Fr):(Int × Int) × Int:=match rd a with
 | some q=>jR (Ot (q.num*1000000000000) q.den false) (Ot (q.num*1000000000000) q.den true)
 | none=>((0,0),20)
theorem Yt (a:Fr) (w:World) (ht:jw.Pow w) (he:whole.Er w) :
  Calls Tryz.prog 36 #[a.v] w (fun e w'=>e= .returned (gZ (mP a))∧Below w.heap.size w w'):=by
 obtain ⟨s,t⟩:=a
 show Calls _ _ #[.agg #[.string s,.string t]] _ _
 unfold mP;cases h:rd ⟨s,t⟩ with
 | none=>exact Jd s t 20 zo w (zh fun W _=>fM.Yj s t 1000000000000 h W)
 | some q =>
  have hd:0<q.den:=q.den_pos;simp only;rw [← aJ1 _ hd];have hn:∀ W,Below w.heap.size w W→ _:=fun W hW=>fM.Yi s t 1000000000000 q h zo zo W (ht.later hW) (he.later hW);have e1:((1000000000000:Nat):Int)=1000000000000:=rfl;rw [e1] at hn;unfold arE;unfold fM.Nh at hn;generalize hz:kH (q.num*1000000000000) q.den=z at *
  by_cases c: -9223372036854775808≤z∧z<9223372036854775808
  ·rw [if_pos c];rw [decide_eq_true c,if_pos rfl] at hn;obtain ⟨s1,t1,hof,hrd⟩:=an5 z (E:=1000000000000) zo zo zo;rw [e1] at hof;have hc:=fun W=>fM.Oo ⟨s,t⟩ ⟨s1,t1⟩ W;have hce:Ak ⟨s,t⟩ ⟨s1,t1⟩=(og q ((z:Rat) / ((1000000000000:Nat):Rat)),0):=by unfold Ak;rw [h,hrd]
   rw [hce,XW q z zo,e1] at hc;have bd0:∀ W,Below w.heap.size w W→ _:=fun W hW=>fM.tZ z 1000000000000 zo zo zo zo W (ht.later hW);rw [hof] at bd0;refine (Qu s t s1 t1 z _ w ?_ (zh hn) (zh bd0) (zh hc)).mono ?_
   ·split
    ·omega
    ·split<;>omega
   ·rintro e w1 ⟨rfl,hb⟩;refine ⟨?_,hb⟩
    congr 2
    by_cases h1:q.num*1000000000000<z*(q.den:Int)
    ·have h2:¬ z*(q.den:Int)<q.num*1000000000000:=by omega
     simp [h1,h2]
    ·by_cases h2:z*(q.den:Int)<q.num*1000000000000
     ·simp [h1,h2]
     ·simp [h1,h2]
  ·rw [if_neg c];rw [decide_eq_false c,if_neg zi] at hn;exact Jd s t 6 zo w (zh hn)
end Go.Proofs.aQ
namespace Go.Proofs.whole
open Go Go.RowKit Go.SW Go.Num Go.Mem Go.Proofs Go.Dec
theorem zK (z:Int) (hz:(Lib.decDigits z.natAbs).length≤600) (w:World) :
  Calls Tryz.prog 254 #[dP z] w (fun e w'=>∃ v,e= .returned (.tuple #[v,.bool true])∧Below w.heap.size w w'∧gN w' v z):=by
 have HC:=zh (vK ⟨(Lib.itoa z).toArray⟩);have e1:(⟨(Lib.itoa z).toArray⟩:ByteArray).data.toList=Lib.itoa z:=rfl;rw [e1,Qj] at HC;have hd:=pI z.natAbs;have hn:=qy z.natAbs;have hl:=wU z.natAbs;have hh:(Lib.decDigits z.natAbs).head? =some 48→z=0:=fun h=>Int.natAbs_eq_zero.1 (wV h);have hz1:z=0→(Lib.decDigits z.natAbs).length≤1:=fun h=>by rw [h];decide+kernel
 unfold dP;generalize (Lib.itoa z).toArray=txt at *;generalize Lib.decDigits z.natAbs=d at *;have hsz:(⟨d.toArray⟩:ByteArray).size=d.length:=rfl;have g0:((d.length:Int) == 0)=false:=beq_eq_false_iff_ne.2 zo;have g1:decide ((600:Int)<(d.length:Int))=false:=by simp;omega
 have g2:¬ d=[]:=fun h=>by rw [h] at hl;simp at hl
 have hbx:ah (w.alloc (.cells #[.slice none 0 0,.bool false] 257 (0,0))) w.heap.size #[.slice none 0 0,.bool false] 257:=ah.new _ _ _;have hbl:Below w.heap.size w (w.alloc (.cells #[.slice none 0 0,.bool false] 257 (0,0))):=(Below.refl _ _).alloc (Nat.le_refl _) _;have uX:=zh hbx;have HD:=zh hd;have HN:=zh hn;have HH:=zh hh;have HZ:=zh hz1;clear hbx hd hn hh hz1 e1;go_enter Tryz.func254,Tryz.ntmps254
 go_wp2_with (go_at_call 273;refine (HC.out _).mono ?_;rintro e w1 ⟨rfl,rfl⟩)
 go_loopw [23] (fun v wr=>∃ i:Nat,v= .int .i64 (i:Int)∧i≤d.length∧w.alloc (.cells #[.slice none 0 0,.bool false] 257 (0,0))=wr) (fun v _=>d.length - (intOf v).toNat)
 case atStart=>exact ⟨0,rfl,by omega,rfl⟩
 case round =>
  obtain ⟨i,rfl,hi,rfl⟩:=hrel
  rcases Nat.lt_or_ge i d.length with hlt|hge
  ·have hgt:(⟨d.toArray⟩:ByteArray)[i]'(by exact hlt)=d[i]:=rfl;have hdig:=HD.out d[i] (List.getElem_mem hlt);have q1:decide (((⟨d.toArray⟩:ByteArray)[i]'(by exact hlt)).toNat<(48:Int))=false:=by rw [hgt];simp;omega
   have q2:decide ((57:Int)<((⟨d.toArray⟩:ByteArray)[i]'(by exact hlt)).toNat)=false:=by rw [hgt];simp;omega
   clear hgt hdig;go_wp2_with fail
   exact ⟨⟨i+1,rfl,by omega,trivial⟩,by simp only [intOf];omega⟩
  ·obtain rfl:i=d.length:=by omega
   have hgt:(⟨d.toArray⟩:ByteArray)[0]'(by exact hl)=d[0]:=rfl;have HG:=zh (xD ⟨d.toArray⟩ (by rw [hsz];omega) HD.out (w.alloc (.cells #[.slice none 0 0,.bool false] 257 (0,0))));have e2:num (⟨d.toArray⟩:ByteArray).data.toList=z.natAbs:=HN.out;rw [e2] at HG;have hx:d[0].toNat=48→z=0:=fun h=>HH.out (by rw [List.head?_eq_getElem?, List.getElem?_eq_getElem hl];exact congrArg some (UInt8.toNat_inj.mp h));cases hq:decide (d[0].toNat=48) with
   | true =>
    have h0:=hx (of_decide_eq_true hq);have h1:=HZ.out h0;have q1:decide ((1:Int)<(d.length:Int))=false:=by simp;omega
    have q2:decide (z<0)=false:=by simp;omega
    have q0:((((⟨d.toArray⟩:ByteArray)[0]'(by exact hl)).toNat:Int) == 48)=true:=by rw [hgt];simp at hq ⊢;omega
    clear hgt hx hq e2 hge hi h0;go_wp2_with (go_at_call 292;refine (HG.out).mono ?_;rintro e w2 ⟨v,rfl,hb2,hv⟩;have HV:=zh hv;obtain ⟨pa,ca,rfl, -⟩:=hv;have Af:=uX.out.later hb2;have cb:=Af.cell;have fb:=Af.free)
    refine aK rfl rfl (((uX.out.later hb2).set 0 _).set 1 _) Tryz.underlying257 rfl zk ?_;refine ⟨_,rfl,((Bt hbl hb2).setCell (Nat.le_refl _) _).setCell (Nat.le_refl _) _,pa,_,ca,?_,(HV.out.setOther Af zd 0 _).setOther (Af.set 0 _) zd 1 _⟩;rw [q2];rfl
   | false =>
    have q0:((((⟨d.toArray⟩:ByteArray)[0]'(by exact hl)).toNat:Int) == 48)=false:=by rw [hgt];simp at hq ⊢;omega
    clear hgt hx hq e2 hge hi;go_wp2_with (go_at_call 292;refine (HG.out).mono ?_;rintro e w2 ⟨v,rfl,hb2,hv⟩;have HV:=zh hv;obtain ⟨pa,ca,rfl, -⟩:=hv;have Af:=uX.out.later hb2;have cb:=Af.cell;have fb:=Af.free)
    refine aK rfl rfl (((uX.out.later hb2).set 0 _).set 1 _) Tryz.underlying257 rfl zk ?_;exact ⟨_,rfl,((Bt hbl hb2).setCell (Nat.le_refl _) _).setCell (Nat.le_refl _) _,pa,_,ca,rfl,(HV.out.setOther Af zd 0 _).setOther (Af.set 0 _) zd 1 _⟩
end Go.Proofs.whole
namespace Go.Proofs.whole
open Go Go.RowKit Go.SW Go.Num Go.Mem Go.Proofs
theorem jH (v:Value) (n:Nat) (w:World) (h:aT w v n) :
  Calls Tryz.prog 295 #[v] w fun e w'=>e= .returned (.bool (decide (n=0)))∧w=w':=zs4
def yF (a b:Nat):Int:=if a<b then -1 else if b<a then 1 else 0
theorem ug {a b:Nat} (h:a<b):yF a b= -1:=if_pos h
theorem rY {a b:Nat} (h:b<a):yF a b=1:=by unfold yF;rw [if_neg zo,if_pos h]
theorem vD (a:Nat):yF a a=0:=by unfold yF;simp
theorem VW (a b:Nat) (w:World):Calls Tryz.prog 275 #[.int .i64 a,.int .i64 b] w fun e w'=>e= .returned (.int .i64 (yF a b))∧w=w':=zs5
theorem VU (a b:Nat) (w:World):Calls Tryz.prog 276 #[.int .u32 a,.int .u32 b] w fun e w'=>e= .returned (.int .i64 (yF a b))∧w=w':=zs6
theorem CZ (a b:Option Addr) (m n c d:Nat) (w:World) (h:m≠n) :
  Calls Tryz.prog 317 #[.slice a m c,.slice b n d] w fun e w'=>e= .returned (.int .i64 (yF m n))∧w=w':=zs7
theorem Aj (pa pb:Option Addr) (ca cb:Nat) (l m:List Nat) (w:World) (hlen:l.length=m.length) (hm:l.length≤9223372036854775807) (hl:iM 1000000000 l) (hmd:iM 1000000000 m)
   (hc:∀ k,k<l.length→∃ b off,pa=some ⟨b,off,none⟩∧b<w.heap.size∧w.cell? ⟨b,off+k,none⟩=some (.int .u32 (l.getD k 0:Nat)))
   (hd:∀ k,k<m.length→∃ b off,pb=some ⟨b,off,none⟩∧b<w.heap.size∧w.cell? ⟨b,off+k,none⟩=some (.int .u32 (m.getD k 0:Nat))) :
    Calls Tryz.prog 317 #[.slice pa l.length ca,.slice pb m.length cb] w fun e w'=>e= .returned (.int .i64 (yF (val 1000000000 l) (val 1000000000 m)))∧Below w.heap.size w w':=zs8
theorem lF (x y:Value) (a b:Nat) (w:World) (hx:aT w x a) (hy:aT w y b) :
  Calls Tryz.prog 317 #[x,y] w fun e w'=>e= .returned (.int .i64 (yF a b))∧Below w.heap.size w w':=zs9
theorem CG:(Tryz.prog.info? 61).map (fun i=>(i.zero,i.size,i.bytes))=some (some (.int .u32 0),1,4):=by kernel_rfl
theorem Bp {B:Nat} {l m s:List Nat} {k c d c':Nat} (hk:k<l.length) (hs:s.length=k) (he:val B s+c*B^k=val B (l.take k)+val B (m.take k)) (h:d+c'*B=l.getD k 0+c+m.getD k 0) :
  val B (s++[d])+c'*B^(k+1)=val B (l.take (k+1))+val B (m.take (k+1)):=aO8
theorem Bo (pl ps:Option Addr) (cl cs:Nat) (l m:List Nat) (v0 v1:Value) (w:World) (hl:iM 1000000000 l) (hmd:iM 1000000000 m) (hb1:l.length≤1099511627776) (hml:m.length≤l.length)
   (hv:(v0= .slice pl l.length cl∧v1= .slice ps m.length cs)∨(v1= .slice pl l.length cl∧v0= .slice ps m.length cs∧m.length<l.length))
   (hc:∀ k,k<l.length→∃ b off,pl=some ⟨b,off,none⟩∧b<w.heap.size∧w.cell? ⟨b,off+k,none⟩=some (.int .u32 (l.getD k 0:Nat)))
   (hd:∀ k,k<m.length→∃ b off,ps=some ⟨b,off,none⟩∧b<w.heap.size∧w.cell? ⟨b,off+k,none⟩=some (.int .u32 (m.getD k 0:Nat))) :
    Calls Tryz.prog 315 #[v0,v1] w fun e w'=>∃ s v,e= .returned v∧Below w.heap.size w w'∧pO w' v s∧iM 1000000000 s∧val 1000000000 s=val 1000000000 l+val 1000000000 m∧l.length≤s.length∧(l.length<s.length→Top s):=aO7
theorem DK (x y:Value) (a b:Nat) (w:World) (hx:aT w x a) (hy:aT w y b) (ha:sz 1000000000 a≤1099511627776) (hb:sz 1000000000 b≤1099511627776) :
  Calls Tryz.prog 315 #[x,y] w fun e w'=>∃ v,e= .returned v∧Below w.heap.size w w'∧aT w' v (a+b):=zs12
theorem GQ (pl ps:Option Addr) (cl cs:Nat) (l m:List Nat) (w:World) (hl:iM 1000000000 l) (hmd:iM 1000000000 m) (hb1:l.length≤1099511627776) (hml:m.length≤l.length) (hle:val 1000000000 m≤val 1000000000 l)
   (hc:∀ k,k<l.length→∃ b off,pl=some ⟨b,off,none⟩∧b<w.heap.size∧w.cell? ⟨b,off+k,none⟩=some (.int .u32 (l.getD k 0:Nat)))
   (hd:∀ k,k<m.length→∃ b off,ps=some ⟨b,off,none⟩∧b<w.heap.size∧w.cell? ⟨b,off+k,none⟩=some (.int .u32 (m.getD k 0:Nat))) :
    Calls Tryz.prog 326 #[.slice pl l.length cl,.slice ps m.length cs] w fun e w'=>∃ v,e= .returned v∧Below w.heap.size w w'∧aT w' v (val 1000000000 l - val 1000000000 m):=aO6
theorem GU (x y:Value) (a b:Nat) (w:World) (hx:aT w x a) (hy:aT w y b) (ha:sz 1000000000 a≤1099511627776) (hle:b≤a) :
  Calls Tryz.prog 326 #[x,y] w fun e w'=>∃ v,e= .returned v∧Below w.heap.size w w'∧aT w' v (a - b):=aO5
theorem Vj {x y:Nat} (hx:x<1000000000) (hy:y<1000000000):(0:Int)≤(x:Int)*(y:Int)∧(x:Int)*(y:Int)≤999999998000000001:=by
 have h:x*y≤999999999*999999999:=Nat.mul_le_mul zo zo;rw [← Int.natCast_mul];omega
theorem Gc (pl ps:Option Addr) (cl cs:Nat) (l m:List Nat) (w:World) (hl:iM 1000000000 l) (hmd:iM 1000000000 m) (hb1:l.length≤1099511627776) (hb2:m.length≤1099511627776)
   (hc:∀ k,k<l.length→∃ b off,pl=some ⟨b,off,none⟩∧b<w.heap.size∧w.cell? ⟨b,off+k,none⟩=some (.int .u32 (l.getD k 0:Nat)))
   (hd:∀ k,k<m.length→∃ b off,ps=some ⟨b,off,none⟩∧b<w.heap.size∧w.cell? ⟨b,off+k,none⟩=some (.int .u32 (m.getD k 0:Nat))) :
    Calls Tryz.prog 296 #[.slice pl l.length cl,.slice ps m.length cs] w fun e w'=>∃ v,e= .returned v∧Below w.heap.size w w'∧aT w' v (val 1000000000 l*val 1000000000 m):=aO4
theorem lW (x y:Value) (a b:Nat) (w:World) (hx:aT w x a) (hy:aT w y b) (ha:sz 1000000000 a≤1099511627776) (hb:sz 1000000000 b≤1099511627776) :
  Calls Tryz.prog 296 #[x,y] w fun e w'=>∃ v,e= .returned v∧Below w.heap.size w w'∧aT w' v (a*b):=aO3
theorem yD (pl:Option Addr) (cl:Nat) (l:List Nat) (d:Nat) (w:World) (hl:iM 1000000000 l) (hb1:l.length≤1099511627776) (hd0:0<d) (hd1:d≤1000000000)
   (hc:∀ k,k<l.length→∃ b off,pl=some ⟨b,off,none⟩∧b<w.heap.size∧w.cell? ⟨b,off+k,none⟩=some (.int .u32 (l.getD k 0:Nat))) :
    Calls Tryz.prog 316 #[.slice pl l.length cl,.int .u32 d] w fun e w'=>∃ v,e= .returned (.tuple #[v,.int .u32 (val 1000000000 l%d:Nat)])∧Below w.heap.size w w'∧aT w' v (val 1000000000 l / d):=aO2
theorem zD (x:Value) (a d:Nat) (w:World) (hx:aT w x a) (ha:sz 1000000000 a≤1099511627776) (hd0:0<d) (hd1:d≤1000000000) :
  Calls Tryz.prog 316 #[x,.int .u32 d] w fun e w'=>∃ v,e= .returned (.tuple #[v,.int .u32 (a%d:Nat)])∧Below w.heap.size w w'∧aT w' v (a / d):=by
 obtain ⟨pa,ca,rfl,h1,h2,h3⟩:=pO.read hx.DX;have:=yD pa ca _ d w (bg zo a) ha hd0 hd1 h3
 rwa [aR zo] at this
theorem yC (pl:Option Addr) (cl:Nat) (l:List Nat) (w:World) (hm:l.length≤9223372036854775807) (hv:val 1000000000 l≤18446744073709551615)
   (hc:∀ k,k<l.length→∃ b off,pl=some ⟨b,off,none⟩∧b<w.heap.size∧w.cell? ⟨b,off+k,none⟩=some (.int .u32 (l.getD k 0:Nat))) :
    Calls Tryz.prog 346 #[.slice pl l.length cl] w fun e w'=>e= .returned (.int .u64 (val 1000000000 l:Nat))∧w=w':=aO1
theorem Gi (x:Value) (a:Nat) (w:World) (hx:aT w x a) (ha:a≤18446744073709551615) :
  Calls Tryz.prog 346 #[x] w fun e w'=>e= .returned (.int .u64 (a:Nat))∧w=w':=by
 obtain ⟨pa,ca,rfl,h1,h2,h3⟩:=pO.read hx.DX;have:=yC pa ca _ w zo (by rw [aR zo];exact ha) h3
 rwa [aR zo] at this
theorem pF (a:Nat) (w:World) (ha:a≤18446744073709551615) :
  Calls Tryz.prog 314 #[.int .u64 a] w fun e w'=>∃ v,e= .returned v∧Below w.heap.size w w'∧aT w' v a:=aO0
def Az (w:World) (g k:Nat) (pre u post v:List Nat) (e:Ending) (w':World):Prop :=
 e= .returned (.int .u32 (val 1000000000 u / val 1000000000 v:Nat))∧w.grownBy w' (some g) ∧
   ∃ s,ah w' g (eX (pre++(s++[0])++post)).toArray 61∧s.length=k+2∧iM 1000000000 s∧val 1000000000 s=val 1000000000 u%val 1000000000 v
theorem Cw (g j k cu:Nat) (pv:Option Addr) (cv:Nat) (pre u post v:List Nat) (w:World) (hj:pre.length=j) (hu:u.length=k+3) (hv:v.length=k+2) (du:iM 1000000000 u) (dv:iM 1000000000 v) (hk:k≤1099511627776)
  (ht:1000000000≤2*v.getD (k+1) 0) (hlt:val 1000000000 u<val 1000000000 v*1000000000) (aD3:ah w g (eX (pre++u++post)).toArray 61)
  (hd:∀ i,i<k+2→∃ b off,pv=some ⟨b,off,none⟩∧b≠g∧b<w.heap.size∧w.cell? ⟨b,off+i,none⟩=some (.int .u32 (v.getD i 0:Nat))) :
  Calls Tryz.prog 333 #[.slice (some ⟨g,j,none⟩) (k+3) cu,.slice pv (k+2) cv] w (Az w g k pre u post v):=aN9
def qA (w:World) (q r:Nat) (e:Ending) (w':World):Prop:=∃ vq vr,e= .returned (.tuple #[vq,vr])∧Below w.heap.size w w'∧aT w' vq q∧aT w' vr r
theorem CW (x y:Value) (a b:Nat) (w:World) (hx:aT w x a) (hy:aT w y b) (h:a<b) :
  Calls Tryz.prog 313 #[x,y] w (qA w (a / b) (a%b)):=aN8
theorem Ag (pa pb:Option Addr) (ca cb:Nat) (a b:Nat) (w:World) (hx:aT w (.slice pa (sz 1000000000 a) ca) a) (hy:aT w (.slice pb 1 cb) b) (hb0:0<b) (hb1:b<1000000000) (h:b≤a) (ha:sz 1000000000 a≤549755813888) :
  Calls Tryz.prog 313 #[.slice pa (sz 1000000000 a) ca,.slice pb 1 cb] w (qA w (a / b) (a%b)):=aN7
theorem CV (pa pb:Option Addr) (ca cb:Nat) (a b k:Nat) (w:World) (hx:aT w (.slice pa (sz 1000000000 a) ca) a) (hy:aT w (.slice pb (k+2) cb) b) (hsb:sz 1000000000 b=k+2) (h:b≤a) (ha:sz 1000000000 a≤549755813888) :
  Calls Tryz.prog 313 #[.slice pa (sz 1000000000 a) ca,.slice pb (k+2) cb] w (qA w (a / b) (a%b)):=aN6
theorem ji (x y:Value) (a b:Nat) (w:World) (hx:aT w x a) (hy:aT w y b) (hb:0<b) (ha:sz 1000000000 a≤549755813888) :
  Calls Tryz.prog 313 #[x,y] w (qA w (a / b) (a%b)):=aN5
end Go.Proofs.whole
namespace Go.Proofs.whole
open Go Go.RowKit Go.SW Go.Num Go.Mem Go.Proofs Go.Proofs.jw Go.Dec
theorem Si (B b d wd:Nat) (l:List UInt8) (w:World) (h:Yl B b (Lib.byteCells l) w) (hB:B≤w.heap.size) (hw:wd≤9) (hd:d<1000000000) (hl:l.length≤140737488355000) (ht:Pow w) :
  Calls Tryz.prog 328 #[.int .u32 d,.int .i64 wd,.pointer (some ⟨b,0,none⟩)] w fun e w'=>e= .returned (.tuple #[])∧Yl B b (Lib.byteCells (l++(List.replicate (wd - (Lib.decDigits d).length) 48++Lib.decDigits d))) w'∧Below B w w':=aN4
def Jl (w:World) (n:Nat) (e:Ending) (w':World):Prop:=e= .returned (.string ⟨(Lib.decDigits n).toArray⟩)∧Below w.heap.size w w'
theorem uV (x:Value) (a:Nat) (w:World) (hx:aT w x a) (ha:sz 1000000000 a≤1099511627776) (ht:Pow w) :
  Calls Tryz.prog 294 #[x] w (Jl w a):=aN3
theorem oG (x:Value) (a:Nat) (w:World) (hx:aT w x a) (ha:sz 1000000000 a≤1099511627776) (ht:Pow w) :
  Calls Tryz.prog 293 #[x] w (fun e w'=>e= .returned (.int .i64 ((Lib.decDigits a).length:Nat))∧Below w.heap.size w w'):=aN2
end Go.Proofs.whole
namespace Go.Proofs.whole
open Go Go.RowKit Go.SW Go.Num Go.Mem Go.Proofs
theorem aT.inj {w:World} {v:Value} {m n:Nat} (h:aT w v m) (k:aT w v n):m=n:=aN1
open Classical in
noncomputable def He (w:World) (v:Value):Nat:=if h:∃ n,aT w v n then h.choose else 0
theorem wK {w:World} {v:Value} {n:Nat} (h:aT w v n):He w v=n:=by
 unfold He;rw [dif_pos ⟨n,h⟩];exact aT.inj (Exists.choose_spec (⟨n,h⟩:∃ n,aT w v n)) h
theorem wQ (x y:Value) (a b:Nat) (w:World) (hx:aT w x a) (hy:aT w y b) (ha:sz 1000000000 a≤549755813888) (hb:sz 1000000000 b≤549755813888) :
  Calls Tryz.prog 332 #[x,y] w (fun e w'=>∃ v,e= .returned v∧Below w.heap.size w w'∧aT w' v (Nat.gcd a b)):=aN0
end Go.Proofs.whole
namespace Go.Proofs.whole
open Go Go.RowKit Go.SW Go.Num Go.Mem Go.Proofs Go.Dec
theorem iy (m:Value) (n:Nat) (b:Bool) (w:World) (h:aT w m n) :
  Calls Tryz.prog 256 #[m,.bool b] w (fun e w'=>∃ v,e= .returned v∧Below w.heap.size w w'∧gN w' v (kM n b)):=aM9
theorem wJ (v:Value) (z:Int) (w:World) (h:gN w v z) :
  Calls Tryz.prog 331 #[v] w (fun e w'=>∃ v,e= .returned v∧Below w.heap.size w w'∧gN w' v (-z)):=aM8
theorem OH (pa pb:Option Addr) (l m ca cb:Nat) (z y:Int) (b:Bool) (w:World) (h:aT w (.slice pa l ca) z.natAbs) (h2:aT w (.slice pb m cb) y.natAbs) (hz:decide (z<0)=b) (hy:decide (y<0)=b) (kz:sz 1000000000 z.natAbs≤549755813888) (ky:sz 1000000000 y.natAbs≤549755813888) :
  Calls Tryz.prog 308 #[.agg #[.slice pa l ca,.bool b],.agg #[.slice pb m cb,.bool b]] w (fun e w'=>∃ v,e= .returned v∧Below w.heap.size w w'∧gN w' v (z+y)):=aM7
theorem OI (pa pb:Option Addr) (l m ca cb:Nat) (z y:Int) (b:Bool) (w:World) (h:aT w (.slice pa l ca) z.natAbs) (h2:aT w (.slice pb m cb) y.natAbs) (hz:decide (z<0)=b) (hy:decide (y<0)= !b) (kz:sz 1000000000 z.natAbs≤549755813888) (ky:sz 1000000000 y.natAbs≤549755813888) :
  Calls Tryz.prog 308 #[.agg #[.slice pa l ca,.bool b],.agg #[.slice pb m cb,.bool !b]] w (fun e w'=>∃ v,e= .returned v∧Below w.heap.size w w'∧gN w' v (z+y)):=aM6
theorem Bj (v u:Value) (z y:Int) (w:World) (h:gN w v z) (h2:gN w u y) (kz:sz 1000000000 z.natAbs≤549755813888) (ky:sz 1000000000 y.natAbs≤549755813888) :
  Calls Tryz.prog 308 #[v,u] w (fun e w'=>∃ v,e= .returned v∧Below w.heap.size w w'∧gN w' v (z+y)):=aM5
end Go.Proofs.whole
namespace Go.Proofs.whole
open Go Go.RowKit Go.SW Go.Num Go.Mem Go.Proofs
theorem Pg (x:Value) (a k:Nat) (w:World) (hx:aT w x a) (hk:k≤9223372036854775807) (hb:∀ i,i≤k→sz 1000000000 (a^i)≤1099511627776) (ha:sz 1000000000 a≤1099511627776) :
  Calls Tryz.prog 257 #[x,.int .i64 (k:Int)] w (fun e w'=>∃ v,e= .returned v∧Below w.heap.size w w'∧aT w' v (a^k)):=by
 have hmf:∀ (fn:Fn) (first cap:Array Value) (w:World),(Instr.makeFunc fn first cap).run Tryz.prog w= .ok (.func fn first cap) w:=fun _ _ _ _=>rfl;obtain ⟨pa,l,ca,rfl⟩:=hx.slice;have HX:=zh hx;have HBD:=zh hb;have HA:=zh ha;clear hx hb ha;go_enter Tryz.func257,Tryz.ntmps257
 go_wp2_with fail
 have hb1:Below w.heap.size w (w.alloc (.cells #[.int .u32 1] 61)):=au;have h1:Hid (aT (w.alloc (.cells #[.int .u32 1] 61)) (.slice (some ⟨w.heap.size,0,none⟩) 1 1) 1):=zh (by have:=aT.lit (w:=w) (d:=1) zo zo;simpa using this);obtain ⟨w1,EW⟩:∃ y,w.alloc (.cells #[.int .u32 1] 61)=y:=⟨_,rfl⟩;rw [EW] at hb1 h1 ⊢;have HB1:=zh hb1;clear EW hb1
 go_loopw [5,11] (fun pv iv wr=>∃ i:Nat,iv= .int .i64 (i:Int)∧i≤k∧Hid (aT wr pv (a^i))∧Below w1.heap.size w1 wr) (fun _ iv _=>k - (intOf iv).toNat)
 case atStart=>exact ⟨0,rfl,by omega,zh (by rw [Nat.pow_zero];exact h1.out),Below.refl _ _⟩
 case round =>
  obtain ⟨i,rfl,hi,HP,hb⟩:=hrel;obtain ⟨pp,lp,cp,rfl⟩:=HP.out.slice
  rcases Nat.lt_or_ge i k with hlt|hge
  ·have HT:=zh (lW _ _ a (a^i) wr (HX.out.later (Bt HB1.out hb)) HP.out HA.out (HBD.out i hi));go_wp2_with fail
   refine HT.out.mono ?_;rintro e w2 ⟨v,rfl,hb2,hv⟩;obtain ⟨pq,lq,cq,rfl⟩:=hv.slice;have qx:Hid (aT w2 (.slice pq lq cq) (a^(i+1))):=zh (by rw [Nat.pow_succ,Nat.mul_comm];exact hv);have hz:=Bt hb hb2;clear hv hb2 HT HP;go_wp2_with fail
   go_roundw
   case rel=>exact ⟨i+1,by go_num,by omega,qx,hz⟩
   case measure=>exact zM
  ·obtain rfl:i=k:=by omega
   go_wp2_with fail
   go_ret
   exact ⟨_,rfl,Bt HB1.out hb,HP.out⟩
theorem YT (k d:Nat):(List.replicate (k+1) 0).set k d=List.replicate k 0++[d]:=by
 rw [List.replicate_succ'];rw [List.set_append_right _ _ zi];simp
theorem aj3 {w:World} {v:Value} {k d:Nat} (h:pO w v ((List.replicate (k+1) 0).set k d)) (h0:0<d) (h1:d<1000000000):aT w v (1000000000^k*d):=by
 rw [YT] at h
 have:=aT.SF h (fun x hx=>by
  rcases List.mem_append.1 hx with hx|hx
  ·rw [List.eq_of_mem_replicate hx];omega
  ·simp at hx;omega) (fun j hj=>by
  have e:j=k:=by simpa using hj.symm
  subst e;rw [List.getD_eq_getElem?_getD,List.getElem?_append_right zi];simp
  omega)
 rwa [mW,xu,List.length_replicate,Nat.zero_add] at this
theorem vg (n:Nat) (hn:n≤100000) (w:World) :
  Calls Tryz.prog 312 #[.int .i64 (n:Int)] w (fun e w'=>∃ v,e= .returned v∧Below w.heap.size w w'∧aT w' v (10^n)):=by
 obtain ⟨i0,hi,hz0,hz1,hz2⟩:=info_parts CG;have W0:∀ z:Int,0≤z∧z≤1000000000→IntKind.i64.wrap z=z:=fun z h=>by unfold IntKind.wrap;simp [IntKind.bits,IntKind.signed];omega
 obtain ⟨k,hk⟩:∃ k,n / 9=k:=⟨_,rfl⟩;obtain ⟨r,hr⟩:∃ r,n%9=r:=⟨_,rfl⟩
 have e10:10^n=1000000000^k*10^r:=by
  rw [show (1000000000:Nat)=10^9 by decide,← Nat.pow_mul,← Nat.pow_add]
  congr 1
  omega
 rw [e10];have t1:(n:Int).tdiv 9=(k:Int):=by rw [Int.tdiv_eq_ediv_of_nonneg zo];omega
 have t2:(n:Int).tmod 9=(r:Int):=by rw [Int.tmod_eq_emod_of_nonneg zo];omega
 have u1:=W0 (k:Int) zo;have u2:=W0 ((k:Int)+1) zo;have u3:=W0 (r:Int) zo;have hr8:r≤8:=by omega
 have hk9:k≤100000:=by omega
 have HT:Hid (∀ i,i≤r→0<10^i∧10^i≤100000000):=zh fun i hi=>⟨Nat.pow_pos zo,Nat.le_trans (Nat.pow_le_pow_right zo (show i≤8 by omega)) zd⟩;clear e10 hk hr W0;go_enter Tryz.func312,Tryz.ntmps312
 go_wp2_with (at_make;refine wpList_make_full _ rfl _ _ 255 rfl w.heap.size 61 i0 (.int .u32 0) 1 Tryz.underlying255 hi hz0 hz1 _ _ _ _ (k+1) rfl rfl zo zo (by rw [hz2];omega) (by unfold maxLen;omega) (Nat.le_refl _) ?_)
 intro w0 hown0 nD;rw [uP] at hown0;have hb0:Below w.heap.size w w0:=(Below.refl _ _).grown nD (Nat.le_refl _) (fun k h=>by cases h);have HO:=zh hown0;have HB:=zh hb0;clear hown0 nD hb0;go_wp2_with fail
 go_loopw [4,11] (fun tv iv wr=>∃ i:Nat,iv= .int .i64 (i:Int)∧i≤r∧tv= .int .u32 ((10^i:Nat):Int)∧wr=w0) (fun _ iv _=>r - (intOf iv).toNat)
 case atStart=>exact ⟨0,rfl,by omega,rfl,rfl⟩
 case round =>
  obtain ⟨i,rfl,hi,rfl,rfl⟩:=hrel;obtain ⟨h1,h2⟩:=HT.out i hi
  rcases Nat.lt_or_ge i r with hlt|hge
  ·have h3:=(HT.out (i+1) zo).2;obtain ⟨b,hB⟩:∃ b,Hid (10^(i+1)=b):=⟨_,zh rfl⟩;rw [hB.out] at h3;have e:((10^i:Nat):Int)*10=(b:Int):=by rw [← hB.out,Nat.pow_succ];omega
   have he:IntKind.u32.wrap (((10^i:Nat):Int)*10)=(b:Int):=by rw [e];unfold IntKind.wrap;simp [IntKind.bits,IntKind.signed];omega
   clear e h3 h1 h2;generalize 10^i=a at *;go_wp2_with fail
   go_roundw
   case rel=>exact ⟨i+1,by go_num,by omega,by rw [hB.out],trivial⟩
   case measure=>exact zM
  ·obtain rfl:i=r:=by omega
   obtain ⟨d,hD⟩:∃ d,Hid (10^i=d):=⟨_,zh rfl⟩;rw [hD.out] at h1 h2 ⊢;have q1:wr.cell? ⟨w.heap.size,k,none⟩=some (.int .u32 0):=by rw [HO.out.cellAt k zo,qC zi];simp
   have q2:wr.frozen? ⟨w.heap.size,k,none⟩=false:=HO.out.frozenAt k
   have HS:Hid (aT (wr.setCell ⟨w.heap.size,k,none⟩ (.int .u32 (d:Int))) (.slice (some ⟨w.heap.size,0,none⟩) (k+1) (k+1)) (1000000000^k*d)):=zh (by
    have h3:=(HO.out.stored k (.int .u32 (d:Int))).1;rw [nS] at h3;exact aj3 (pO.jP h3) h1 zo)
   have hb:Below w.heap.size w (wr.setCell ⟨w.heap.size,k,none⟩ (.int .u32 (d:Int))):=HB.out.setCell (Nat.le_refl _) _;go_wp2_with fail
   go_ret
   exact ⟨_,rfl,hb,by rw [hD.out];exact HS.out⟩
end Go.Proofs.whole
