/- Lemmas for the proof. No condition. -/
import Derived.Test.YtneajphgfdlmhaaGreatDoorXB01
import Derived.Test.YtneajphgfdlmhaaGreatDoorXB03
import Derived.Test.YtneajphgfdlmhaaGreatDoorXB05
import Derived.Test.YtneajphgfdlmhaaGreatDoorProg
import Derived.KernelRfl
import Derived.Deep.QuietTactic
import Derived.BigQuiet
import Derived.WalkSmall
import Derived.Deep.DeepCutAuto
import Derived.Deep.CutBlock
import Derived.Laws.CopyOwn
import Derived.Laws.EntriesVeiled
set_option linter.unusedVariables false
set_option linter.unusedSimpArgs false
set_option maxRecDepth 100000
set_option maxHeartbeats 16000000
namespace Go.Proofs.dA
open Go Go.RowKit Go.SW Go.Num Go.Mem Go.Proofs Go.Dec Go.fF
theorem Ja {z:Int} {d:Nat} (hd:0<d) (h:z<0):z / (d:Int)= -((z.natAbs / d+(if z.natAbs%d=0 then 0 else 1):Nat):Int):=by
 have h1:=aW.Uh z.natAbs d hd;have e:z= -(z.natAbs:Int):=by omega
 conv=>lhs;rw [e]
 rw [h1];unfold aW.sZ
 by_cases c:z.natAbs%d=0
 ·rw [if_neg zo,if_pos c,Nat.add_zero]
 ·rw [if_pos ⟨by omega,rfl⟩,if_neg c]
theorem aa5 (v u:Value) (z:Int) (d:Nat) (w:World) (h:dB w v z) (hu:aQ w u d) (hd:0<d) (kz:sz 1000000000 z.natAbs≤549755813888) (kd:sz 1000000000 d≤549755813888) :
  Calls Tryz.prog 247 #[v,u] w (fun e w'=>∃ r,e= .returned r∧Below w.heap.size w w'∧dB w' r (z / (d:Int))):=by
 obtain ⟨MW,lH,Om,rfl,H⟩:=h;replace H:=zh H;obtain ⟨paG,lG,caG,rfl⟩:=hu.slice;have G:=zh hu;clear hu;have HD:=zh hd;have KZ:=zh kz;have KD:=zh kd;have KQ:Hid (sz 1000000000 (z.natAbs / d)≤549755813888):=zh (Nat.le_trans (dh zo (Nat.div_le_self _ _)) kz);obtain ⟨q,Eq⟩:∃ y:Nat,Hid (z.natAbs / d=y):=⟨_,zh rfl⟩;obtain ⟨r,Er⟩:∃ y:Nat,Hid (z.natAbs%d=y):=⟨_,zh rfl⟩;rw [Eq.out] at KQ;clear hd kz kd
 by_cases hz:z<0
 ·have g1:decide (z<0)=true:=decide_eq_true hz;go_enter Tryz.func247,Tryz.ntmps247
  go_wp2_with fail
  refine ((fK _ _ z.natAbs d _ aI aI HD.out KZ.out).mono (by rw [Eq.out,Er.out];exact fun _ _ h=>h)).mono ?_;rintro e v1 ⟨v,vr,rfl,hc1,hv,oP⟩;obtain ⟨Bw,XZ,BM,rfl⟩:=hv.slice;have Hq:=zh hv;clear hv;obtain ⟨aJ8,aT8,aN7,rfl⟩:=oP.slice;have Hqr:=zh oP;clear oP;have BR:=ah.later (ah.pF _ _ _ _) hc1;have bK:=BR.cell;have bJ:=BR.free;have iL:=BR.lt;have B0:=ah.later (ah.alloc (ah.new _ _ _) _) hc1;have cB0:=B0.cell;have jE:=B0.free;have lB0:=B0.lt;go_wp2_with fail
  by_cases hr:r=0
  ·have tN:=zh hr;refine (gF _ r _ aI).mono ?_;rintro e v5 ⟨rfl,rfl⟩;rw [show decide (r=0)=true from decide_eq_true hr];clear hr;go_wp2_with fail
   refine (dJ _ q true _ aI).mono ?_;rintro e v3 ⟨v,rfl,hc3,hv⟩;obtain ⟨Hf,lHs,Ih,rfl,Hs⟩:=hv;replace Hs:=zh Hs;replace BR:=ah.later (BR) hc3;replace bK:=BR.cell;replace bJ:=BR.free;replace iL:=BR.lt;replace B0:=ah.later (B0) hc3;replace cB0:=B0.cell;replace jE:=B0.free;replace lB0:=B0.lt;go_wp2_with fail
   have HE:Hid (gT q true=z / (d:Int)):=by
    rw [Ja HD.out hz,Er.out,Eq.out,if_pos tN.out,Nat.add_zero];rfl
   refine dH rfl rfl aJ Tryz.underlying106 rfl zk ?_;exact ⟨_,rfl,aD,(dB.dX aI).cast HE.out⟩
  ·have tN:=zh hr;refine (gF _ r _ aI).mono ?_;rintro e v5 ⟨rfl,rfl⟩;rw [show decide (r=0)=false from decide_eq_false hr];clear hr;go_wp2_with fail
   refine (Ca _ _ q 1 _ aI (aQ.lit zo zo) (Nat.le_trans KQ.out zo) (by have:=aR (B:=1000000000) zo 1 1 zo;omega)).mono ?_;rintro e v2 ⟨v,rfl,hc2,hv⟩;obtain ⟨Qf,lHp,Rn,rfl⟩:=hv.slice;have Hp:=zh hv;clear hv;replace BR:ah _ (w.heap.size+1) _ _:=ah.later aJ hc2;(try simp only [List.setIfInBounds_toArray,List.set_cons_zero,List.set_cons_succ] at BR);replace bK:=BR.cell;replace bJ:=BR.free;replace iL:=BR.lt;replace B0:ah _ (w.heap.size) _ _:=ah.later aJ hc2;(try simp only [List.setIfInBounds_toArray,List.set_cons_zero,List.set_cons_succ] at B0);replace cB0:=B0.cell;replace jE:=B0.free;replace lB0:=B0.lt;go_wp2_with fail
   refine (dJ _ (q+1) true _ aI).mono ?_;rintro e v3 ⟨v,rfl,hc3,hv⟩;obtain ⟨Hf,lHs,Ih,rfl,Hs⟩:=hv;replace Hs:=zh Hs;replace BR:=ah.later (BR) hc3;replace bK:=BR.cell;replace bJ:=BR.free;replace iL:=BR.lt;replace B0:=ah.later (B0) hc3;replace cB0:=B0.cell;replace jE:=B0.free;replace lB0:=B0.lt;go_wp2_with fail
   have HE:Hid (gT (q+1) true=z / (d:Int)):=by
    rw [Ja HD.out hz,Er.out,Eq.out,if_neg tN.out];rfl
   refine dH rfl rfl aJ Tryz.underlying106 rfl zk ?_;exact ⟨_,rfl,aD,(dB.dX aI).cast HE.out⟩
 ·have g1:decide (z<0)=false:=decide_eq_false hz;go_enter Tryz.func247,Tryz.ntmps247
  go_wp2_with fail
  refine ((fK _ _ z.natAbs d _ aI aI HD.out KZ.out).mono (by rw [Eq.out,Er.out];exact fun _ _ h=>h)).mono ?_;rintro e v1 ⟨v,vr,rfl,hc1,hv,oP⟩;obtain ⟨Bw,XZ,BM,rfl⟩:=hv.slice;have Hq:=zh hv;clear hv;obtain ⟨aJ8,aT8,aN7,rfl⟩:=oP.slice;have Hqr:=zh oP;clear oP;have BR:=ah.later (ah.pF _ _ _ _) hc1;have bK:=BR.cell;have bJ:=BR.free;have iL:=BR.lt;have B0:=ah.later (ah.alloc (ah.new _ _ _) _) hc1;have cB0:=B0.cell;have jE:=B0.free;have lB0:=B0.lt;go_wp2_with fail
  refine (dJ _ q false _ aI).mono ?_;rintro e v3 ⟨v,rfl,hc3,hv⟩;obtain ⟨Hf,lHs,Ih,rfl,Hs⟩:=hv;replace Hs:=zh Hs;replace BR:=ah.later (BR) hc3;replace bK:=BR.cell;replace bJ:=BR.free;replace iL:=BR.lt;replace B0:=ah.later (B0) hc3;replace cB0:=B0.cell;replace jE:=B0.free;replace lB0:=B0.lt;go_wp2_with fail
  have HE:Hid (gT q false=z / (d:Int)):=by
   have h1:=Eq.out;have h2:(z.natAbs:Int)=z:=by omega
   rw [← h2,← h1]
   show ((z.natAbs / d:Nat):Int)=_
   rw [Int.natCast_ediv]
  refine dH rfl rfl aJ Tryz.underlying106 rfl zk ?_;exact ⟨_,rfl,aD,(dB.dX aI).cast HE.out⟩
theorem ak3 {n m d:Nat} {z:Int} (hn:sz 1000000000 n≤1000000) (hs:sz 1000000000 m≤1000000) (hd:sz 1000000000 d≤1000000) (hz:z.natAbs≤n*(m*2)+d) :
  sz 1000000000 (m*2)≤1000001∧sz 1000000000 (n*(m*2))≤2000001∧sz 1000000000 z.natAbs≤2000002∧sz 1000000000 (d*2)≤1000001:=by
 have h2:=aR (B:=1000000000) zo 1 2 zo;have h3:=jL (B:=1000000000) zo m 2;have h4:=jL (B:=1000000000) zo n (m*2);have h5:=jL (B:=1000000000) zo d 2;have h6:=wV (B:=1000000000) zo (n*(m*2)) d;have h7:=dh (B:=1000000000) zo hz;refine ⟨by omega,by omega,by omega,by omega⟩
theorem ak4 (x y:Value) (q:Rat) (m:Nat) (w:World) (hx:dZ w x q) (hy:aQ w y m) (kn:sz 1000000000 q.num.natAbs≤1000000) (kd:sz 1000000000 q.den≤1000000) (km:sz 1000000000 m≤1000000) :
  Calls Tryz.prog 189 #[x,y] w (fun e w'=>∃ r,e= .returned r∧Below w.heap.size w w'∧dB w' r (aW.iB (q.num*(m:Int)) q.den)):=by
 obtain ⟨MW,lH,Om,pbH,mH,cbH,rfl,H,Hd⟩:=hx;replace H:=zh H;replace Hd:=zh Hd;obtain ⟨paG,lG,caG,rfl⟩:=hy.slice;have G:=zh hy;clear hy;have hd:0<q.den:=q.den_pos;have HZ:=zh (ak3 (z:=q.num*((m*2:Nat):Int)+(q.den:Int)) kn km kd (by have h1:=Int.natAbs_add_le (q.num*((m*2:Nat):Int)) (q.den:Int);rw [Int.natAbs_mul,Int.natAbs_natCast,Int.natAbs_natCast] at h1;exact h1))
 have HE:Hid ((q.num*((m*2:Nat):Int)+(q.den:Int)) / ((q.den*2:Nat):Int)=aW.iB (q.num*(m:Int)) q.den):=by
  refine zh ?_;unfold aW.iB;rw [Int.natCast_mul,Int.natCast_mul,Int.mul_comm 2 (q.num*(m:Int)),Int.mul_assoc,Int.mul_comm 2 (q.den:Int)];rfl
 have KN:=zh kn;have KD:=zh kd;have KM:=zh km;have HD:=zh hd;have KM1:Hid (sz 1000000000 (q.num*((m*2:Nat):Int)).natAbs≤2000001):=zh (by rw [Int.natAbs_mul,Int.natAbs_natCast];exact HZ.out.2.1);have KD1:Hid (sz 1000000000 (gT q.den false).natAbs≤1000000):=zh (by rw [jm];exact kd);have HS:Hid (gT q.den false=(q.den:Int)):=zh rfl;obtain ⟨r,Er⟩:∃ y:Int,Hid (aW.iB (q.num*(m:Int)) q.den=y):=⟨_,zh rfl⟩;rw [Er.out] at HE ⊢;obtain ⟨n,En⟩:∃ y:Int,Hid (q.num=y):=⟨_,zh rfl⟩;obtain ⟨d,Ed⟩:∃ y:Nat,Hid (q.den=y):=⟨_,zh rfl⟩;rw [En.out] at H HE KN KM1 HZ ⊢;rw [Ed.out] at Hd HE KD KD1 HS HD HZ;obtain ⟨k,Ek⟩:∃ y:Nat,Hid (m*2=y):=⟨_,zh rfl⟩;obtain ⟨e,Ee⟩:∃ y:Nat,Hid (d*2=y):=⟨_,zh rfl⟩;obtain ⟨y,Ey⟩:∃ y:Int,Hid (n*(k:Int)+gT d false=y):=⟨_,zh rfl⟩;rw [Ek.out] at HE KM1 HZ;rw [Ee.out] at HE HZ;rw [← HS.out,Ey.out] at HE HZ;have HD2:Hid (0<e):=zh (by have:=HD.out;have:=Ee.out;omega)
 clear kn kd km hd;go_enter Tryz.func189,Tryz.ntmps189
 go_wp2_with fail
 have HL:Hid _:=zh (aQ.lit (w:=(w.alloc (.cells #[.slice MW lH Om,.bool (decide (n<0)),.slice pbH mH cbH] 108)).alloc (.cells #[.slice none 0 0,.bool false] 106)) (d:=2) zo zo);simp at HL
 refine aF [(.pure,0),(.read,1),(.pure,2),(.pure,3),(.pure,6),(.read,7),(.ext,4),(.ext,5),(.ext,8),(.ext,9),(.alloc #[.slice none 0 0,.bool false] 106,10),(.fin,11)] zk zk zR zP ?_;refine zV ?_;refine aH rfl rfl (fun w1 hb1 J hJ=>?_);go_simp;replace H:=zh (aQ.carry H.out aI hb1);replace Hd:=zh (aQ.carry Hd.out aI hb1);replace HL:=zh (aQ.carry HL.out aI hb1);have BR:=ah.later (ah.drew (ah.alloc (ah.pF _ _ _ _) _)) hb1;have bK:=BR.cell;have bJ:=BR.free;have iL:=BR.lt;have B0:=ah.later (ah.drew (ah.alloc (ah.alloc (ah.new _ _ _) _) _)) hb1;have cB0:=B0.cell;have jE:=B0.free;have lB0:=B0.lt;refine ((iU _ _ m 2 _ aI aI (Nat.le_trans KM.out zo) (by have:=aR (B:=1000000000) zo 1 2 zo;omega)).mono (by rw [Ek.out];exact fun _ _ h=>h)).mono ?_;rintro e v1 ⟨v,rfl,hc1,hv⟩;obtain ⟨aJ9,lHa,aN8,rfl⟩:=hv.slice;have Ha:=zh hv;clear hv
 replace H:=zh (aQ.later H.out hc1);replace Hd:=zh (aQ.later Hd.out hc1);replace HL:=zh (aQ.later HL.out hc1);replace BR:=ah.later (BR) hc1;replace bK:=BR.cell;replace bJ:=BR.free;replace iL:=BR.lt;replace B0:=ah.later (B0) hc1;replace cB0:=B0.cell;replace jE:=B0.free;replace lB0:=B0.lt;refine hJ _ _ hc1 ?_;clear hJ J;refine aH rfl rfl (fun w2 hb2 J hJ=>?_);go_simp;replace Ha:=zh (aQ.later Ha.out hb2);replace H:=zh (aQ.later H.out hb2);replace Hd:=zh (aQ.later Hd.out hb2);replace HL:=zh (aQ.later HL.out hb2);replace BR:=ah.later (BR) hb2;replace bK:=BR.cell;replace bJ:=BR.free;replace iL:=BR.lt;replace B0:=ah.later (B0) hb2;replace cB0:=B0.cell;replace jE:=B0.free;replace lB0:=B0.lt;refine (qQ _ _ n k _ (dB.dX aI) aI (Nat.le_trans KN.out zo) (Nat.le_trans HZ.out.1 zo)).mono ?_;rintro e v2 ⟨v,rfl,hc2,hv⟩
 obtain ⟨aR7,lHb,aW5,rfl,Hb⟩:=hv;replace Hb:=zh Hb;replace Ha:=zh (aQ.later Ha.out hc2);replace H:=zh (aQ.later H.out hc2);replace Hd:=zh (aQ.later Hd.out hc2);replace HL:=zh (aQ.later HL.out hc2);replace BR:=ah.later (BR) hc2;replace bK:=BR.cell;replace bJ:=BR.free;replace iL:=BR.lt;replace B0:=ah.later (B0) hc2;replace cB0:=B0.cell;replace jE:=B0.free;replace lB0:=B0.lt;refine hJ _ _ hc2 ?_;clear hJ J;refine aH rfl rfl (fun w3 hb3 J hJ=>?_);go_simp;replace Hb:=zh (aQ.later Hb.out hb3);replace Hd:=zh (aQ.later Hd.out hb3);replace HL:=zh (aQ.later HL.out hb3);replace BR:=ah.later (BR) hb3;replace bK:=BR.cell;replace bJ:=BR.free;replace iL:=BR.lt;replace B0:=ah.later (B0) hb3;replace cB0:=B0.cell;replace jE:=B0.free;replace lB0:=B0.lt;refine (dJ _ d false _ aI).mono ?_;rintro e v3 ⟨v,rfl,hc3,hv⟩;obtain ⟨aR6,lHc,aW4,rfl,Hc⟩:=hv;replace Hc:=zh Hc
 replace Hb:=zh (aQ.later Hb.out hc3);replace Hd:=zh (aQ.later Hd.out hc3);replace HL:=zh (aQ.later HL.out hc3);replace BR:=ah.later (BR) hc3;replace bK:=BR.cell;replace bJ:=BR.free;replace iL:=BR.lt;replace B0:=ah.later (B0) hc3;replace cB0:=B0.cell;replace jE:=B0.free;replace lB0:=B0.lt;refine hJ _ _ hc3 ?_;clear hJ J;refine aH rfl rfl (fun w4 hb4 J hJ=>?_);go_simp;replace Hd:=zh (aQ.later Hd.out hb4);replace HL:=zh (aQ.later HL.out hb4);replace Hc:=zh (aQ.later Hc.out hb4);replace BR:=ah.later (BR) hb4;replace bK:=BR.cell;replace bJ:=BR.free;replace iL:=BR.lt;replace B0:=ah.later (B0) hb4;replace cB0:=B0.cell;replace jE:=B0.free;replace lB0:=B0.lt;refine ((wW _ _ (n*(k:Int)) (gT d false) _ (dB.dX aI) (dB.dX aI) (Nat.le_trans KM1.out zo) (Nat.le_trans KD1.out zo)).mono (by rw [Ey.out];exact fun _ _ h=>h)).mono ?_;rintro e v4 ⟨v,rfl,hc4,hv⟩
 obtain ⟨Hf,lHs,Ih,rfl,Hs⟩:=hv;replace Hs:=zh Hs;replace Hd:=zh (aQ.later Hd.out hc4);replace HL:=zh (aQ.later HL.out hc4);replace Hc:=zh (aQ.later Hc.out hc4);replace BR:=ah.later (BR) hc4;replace bK:=BR.cell;replace bJ:=BR.free;replace iL:=BR.lt;replace B0:=ah.later (B0) hc4;replace cB0:=B0.cell;replace jE:=B0.free;replace lB0:=B0.lt;refine hJ _ _ hc4 ?_;clear hJ J;refine cK rfl (fun b w5 hw5 hNb bj1 hAb hxb=>?_);go_simp;replace hxb:ah _ _ _ _:=hxb;have hWb:w.heap.size≤b:=(by first|omega|exact Nat.le_trans (Below.size (B:=w.heap.size) aD) hNb);refine aU [_] rfl (fun w6 hb6=>?_);replace hxb:=ah.later (hxb) hb6;replace aW1:=hxb.cell;replace aW0:=hxb.free;replace aT7:=hxb.lt;have h46:Below v4.heap.size v4 w6:=aD;replace BR:=ah.later (BR) h46;replace bK:=BR.cell;replace bJ:=BR.free;replace iL:=BR.lt;replace Hs:=zh (aQ.later Hs.out h46)
 replace B0:=ah.later (B0) h46;replace cB0:=B0.cell;replace jE:=B0.free;replace lB0:=B0.lt;replace Hd:=zh (aQ.later Hd.out h46);replace HL:=zh (aQ.later HL.out h46);have hNe:w.heap.size+1+1+1≤b:=hNb;have n0:w.heap.size≠b:=by omega
 have n1:w.heap.size+1≠b:=by omega
 have h6:Below w.heap.size w w6:=aD;go_wp2_with fail
 obtain ⟨w7,E7⟩:∃ x,(w6.setCell ⟨b,0,none⟩ (.slice Hf lHs Ih)).setCell ⟨b,1,none⟩ (.bool (decide (y<0)))=x:=⟨_,rfl⟩
 have h7:Below w.heap.size w w7:=by
  rw [← E7];have:w.heap.size≤b:=by omega
  exact (h6.setCell this _).setCell this _
 replace BR:ah w7 (w.heap.size+1) #[.slice none 0 0,.bool false] 106:=by rw [← E7];exact (BR.setOther _ n1).setOther _ n1
 replace B0:ah w7 w.heap.size #[.slice MW lH Om,.bool (decide (n<0)),.slice pbH mH cbH] 108:=by rw [← E7];exact (B0.setOther _ n0).setOther _ n0
 have ah5:∀ {v:Value} {x:Nat},aQ w6 v x→aQ w7 v x:=fun h=>by rw [← E7];exact (h.setOther hxb zd _ _).setOther (hxb.set 0 _) zd _ _
 replace Hs:=zh (ah5 Hs.out);replace Hd:=zh (ah5 Hd.out);replace HL:=zh (ah5 HL.out);replace hxb:ah w7 b #[.slice Hf lHs Ih,.bool (decide (y<0))] 106:=by rw [← E7];exact (hxb.set 0 _).set 1 _
 rw [E7];clear E7 ah5 h6 h46 hb6 hb1 hc1 hc2 hc3 hc4;have bK:=ah.cell BR;have iL:=ah.lt BR;have bJ:=ah.free BR;have cB0:=ah.cell B0;have lB0:=ah.lt B0;have jE:=ah.free B0;have aW1:=ah.cell hxb;have aT7:=ah.lt hxb;have aW0:=ah.free hxb;refine aF [(.read,0),(.pure,1),(.read,2),(.pure,3),(.ext,4),(.ext,5),(.fin,6)] zk zk zR zP ?_;refine zV ?_;refine aH rfl rfl (fun w5 hb5 J hJ=>?_);go_simp;replace Hs:=zh (aQ.carry Hs.out aI hb5);replace BR:ah _ (w.heap.size+1) _ _:=ah.later aJ hb5;(try simp only [List.setIfInBounds_toArray,List.set_cons_zero,List.set_cons_succ] at BR);replace bK:=BR.cell;replace bJ:=BR.free;replace iL:=BR.lt;refine ((iU _ _ d 2 _ aI aI (Nat.le_trans KD.out zo) (by have:=aR (B:=1000000000) zo 1 2 zo;omega)).mono (by rw [Ee.out];exact fun _ _ h=>h)).mono ?_;rintro e v5 ⟨v,rfl,nV,hv⟩
 obtain ⟨aJ9,lHa,aN8,rfl⟩:=hv.slice;have Ha:=zh hv;clear hv;replace Hs:=zh (aQ.later Hs.out nV);replace BR:=ah.later (BR) nV;replace bK:=BR.cell;replace bJ:=BR.free;replace iL:=BR.lt;refine hJ _ _ nV ?_;clear hJ J;refine aH rfl rfl (fun w6 hb6 J hJ=>?_);go_simp;replace BR:=ah.later (BR) hb6;replace bK:=BR.cell;replace bJ:=BR.free;replace iL:=BR.lt;refine ((aa5 _ _ y e _ (dB.dX aI) aI HD2.out (Nat.le_trans HZ.out.2.2.1 zo) (Nat.le_trans HZ.out.2.2.2 zo)).mono (by rw [HE.out];exact fun _ _ h=>h)).mono ?_;rintro e v6 ⟨v,rfl,hc6,hv⟩;obtain ⟨YS,lHr,ac4,rfl,Hr⟩:=hv;replace Hr:=zh Hr;replace BR:=ah.later (BR) hc6;replace bK:=BR.cell;replace bJ:=BR.free;replace iL:=BR.lt;refine hJ _ _ hc6 ?_;clear hJ J;refine aU [_] rfl (fun w9 tT=>?_);replace BR:=ah.later (BR) tT;replace bK:=BR.cell;replace bJ:=BR.free;replace iL:=BR.lt;go_wp2_with fail
 refine dH rfl rfl aJ Tryz.underlying106 rfl zk ?_;exact ⟨_,rfl,aD,dB.dX aI⟩
end Go.Proofs.dA
namespace Go.Dec
open Go Go.Lib
theorem Qe (n:Nat):parseUintB 64 (decDigits n)=if n≤18446744073709551615 then .ok n else .range:=by
 obtain ⟨c,r,hc⟩:∃ c r,decDigits n=c::r:=by
  cases h:decDigits n with
  | nil=>exact absurd h (uU n)
  | cons c r=>exact ⟨c,r,rfl⟩
 have hd:=kY n;have hn:=mK n;rw [hc] at hd hn ⊢
 have hu:parseUintB 64 (c::r)=parseUintM 18446744073709551615 0 (c::r):=by
  unfold parseUintB;rw [if_neg zi]
 rw [hu,rU _ _ hd zo,hn,Nat.zero_mul,Nat.zero_add]
theorem MU (z:Int):parseIntB 64 (itoa z)=if -9223372036854775808≤z∧z<9223372036854775808 then .ok z else .range:=by
 rcases Int.lt_or_le z 0 with h|h
 ·obtain ⟨n,rfl⟩:∃ n:Nat,z= -(n:Int):=⟨z.natAbs,by omega⟩
  have hi:itoa (-(n:Int))=45::decDigits n:=by
   unfold itoa;rw [if_pos h,Int.natAbs_neg,Int.natAbs_natCast]
  rw [hi,parseIntB_minus,Qe];have e:(2:Nat)^(64 - 1)=9223372036854775808:=by decide
  rw [e]
  by_cases h1:n≤18446744073709551615
  ·rw [if_pos h1];unfold signedC
   by_cases h2:9223372036854775808<n
   ·simp only;rw [if_pos h2,if_neg zo]
   ·simp only;rw [if_neg h2,if_pos zo]
  ·rw [if_neg h1,if_neg zo];rfl
 ·obtain ⟨n,rfl⟩:∃ n:Nat,z=(n:Int):=⟨z.natAbs,by omega⟩;rw [Dj]
  by_cases h2:n<9223372036854775808
  ·rw [if_pos h2,if_pos zo]
  ·rw [if_neg h2,if_neg zo]
end Go.Dec
namespace Go.Proofs.whole
open Go Go.RowKit Go.SW Go.Num Go.Mem Go.Proofs Go.Dec Go.fF
def ax6 (z:Int):Value:=if -9223372036854775808≤z∧z<9223372036854775808 then .tuple #[.int .i64 z,.int .i64 0] else .tuple #[.int .i64 0,.int .i64 6]
theorem VP (z:Int) (hs:(Lib.itoa z).length≤601) (w:World) (he:Er w) :
  Calls Tryz.prog 246 #[bL z,.int .i64 10,.int .i64 64] w (fun e w'=>(if -9223372036854775808≤z∧z<9223372036854775808 then e= .returned (.tuple #[.int .i64 z,.nilIface]) else ∃ T p,e= .returned (.tuple #[.int .i64 (Lib.intSat 64 (Lib.itoa z)),.iface T (.pointer (some p))]))∧Below w.heap.size w w'):=by
 have hz:(⟨(Lib.itoa z).toArray⟩:ByteArray).size≤601:=hs;have hp:=MU z
 by_cases h: -9223372036854775808≤z∧z<9223372036854775808
 ·rw [if_pos h] at hp;refine (Tryz.strconv_ParseInt_10_at64_ok ⟨(Lib.itoa z).toArray⟩ zo z hp w).mono ?_;rintro e w1 ⟨rfl,hw⟩;refine ⟨by rw [if_pos h],?_⟩
  rcases hw with rfl|⟨t,rfl⟩
  ·exact Below.refl _ _
  ·exact Lib.bytesWorld_below _ _ _
 ·rw [if_neg h] at hp;obtain ⟨tp,p,h1,h2⟩:=he;have hc:=World.var?_cell (P:=Tryz.prog) (w:=w) Tryz.laysC174.m16 h1 0;refine (Tryz.strconv_ParseInt_10_at64_range ⟨(Lib.itoa z).toArray⟩ zo hp (.iface tp p) w hc (Or.inr ⟨tp,p,rfl⟩)).mono ?_;rintro e w1 ⟨N,rfl, -, -, hb⟩;refine ⟨?_,hb⟩;rw [if_neg h];exact ⟨_,_,rfl⟩
theorem ap9 (z:Int) (hn:jd z.natAbs=true) (w:World) (he:Er w) :
  Calls Tryz.prog 188 #[bL z] w (fun e w'=>e= .returned (ax6 z)∧Below w.heap.size w w'):=by
 have hd:(Lib.decDigits z.natAbs).length≤600:=dI.1 hn
 have hi:(Lib.itoa z).length≤601:=by
  unfold Lib.itoa
  by_cases h:z<0
  ·rw [if_pos h,List.length_cons];omega
  ·rw [if_neg h,show z.toNat=z.natAbs by omega];omega
 have hw:(whole (Lib.itoa z)).isSome=true:=by rw [dO hd];rfl
 have HC:Hid (∀ W:World,Calls Tryz.prog 221 #[bL z] W (fun e w'=>e= .returned (.int .i64 0)∧Below W.heap.size W w')):=zh (by
  intro W;have:=jR ⟨(Lib.itoa z).toArray⟩ W;rw [show (⟨(Lib.itoa z).toArray⟩:ByteArray).data.toList=Lib.itoa z from rfl,hw] at this;exact this)
 have HP:=zh (fun W h=>VP z hi W h);have HE:=zh he;unfold ax6;clear hd hi hw he hn;unfold bL at *;generalize Lib.itoa z=t at *
 by_cases h: -9223372036854775808≤z∧z<9223372036854775808
 ·simp only [if_pos h] at HP ⊢;go_enter Tryz.func188,Tryz.ntmps188
  go_wp2_with fail
  refine (HC.out _).mono ?_;rintro e w1 ⟨rfl,hb1⟩;have HB1:=zh hb1;clear hb1;go_wp2_with fail
  refine (HP.out _ (HE.out.later HB1.out)).mono ?_;rintro e w2 ⟨rfl,hb2⟩;have hw:=Bt HB1.out hb2;clear hb2 HB1;go_wp2_with fail
  go_ret2
  exact ⟨rfl,hw⟩
 ·simp only [if_neg h] at HP ⊢;go_enter Tryz.func188,Tryz.ntmps188
  go_wp2_with fail
  refine (HC.out _).mono ?_;rintro e w1 ⟨rfl,hb1⟩;have HB1:=zh hb1;clear hb1;go_wp2_with fail
  refine (HP.out _ (HE.out.later HB1.out)).mono ?_;rintro e w2 ⟨⟨T,p,rfl⟩,hb2⟩;have hw:=Bt HB1.out hb2;clear hb2 HB1;go_wp2_with fail
  go_ret2
  exact ⟨rfl,hw⟩
end Go.Proofs.whole
namespace Go.Proofs.dA
open Go Go.RowKit Go.SW Go.Num Go.Mem Go.Proofs Go.Dec Go.fF
def Kj (z:Int):Bool:=decide (-9223372036854775808≤z∧z<9223372036854775808)
theorem ap8 (z:Int) (w:World) (he:whole.Er w) :
  Calls Tryz.prog 188 #[bL z] w (fun e w'=>(∃ x k,(k=0↔Kj z=true)∧(Kj z=true→x=z)∧e= .returned (.tuple #[.int .i64 x,.int .i64 k]))∧Below w.heap.size w w'):=by
 cases h:jd z.natAbs with
 | true =>
  refine (whole.ap9 z h w he).mono ?_;rintro e w1 ⟨rfl,hb⟩;refine ⟨?_,hb⟩;unfold whole.ax6 Kj
  by_cases c: -9223372036854775808≤z∧z<9223372036854775808
  ·rw [if_pos c,decide_eq_true c];exact ⟨z,0,by simp,fun _=>rfl,rfl⟩
  ·rw [if_neg c,decide_eq_false c];exact ⟨0,6,by simp,(fun h=>by cases h),rfl⟩
 | false =>
  have hn:whole (Lib.itoa z)=none:=by
   cases e:whole (Lib.itoa z) with
   | none=>rfl
   | some n =>
    obtain ⟨h1,h2⟩:=mD e;rw [← yJ h1,← dI,h] at h2;cases h2
  have hr:Kj z=false:=by
   unfold Kj;refine decide_eq_false fun c=>?_
   have h3:jd z.natAbs=true:=by
    unfold jd;refine decide_eq_true (Nat.lt_of_lt_of_le (show z.natAbs<9223372036854775809 by omega) ?_)
    decide+kernel
   rw [h] at h3;cases h3
  have HC:=zh (fun W=>Gb (s:=⟨(Lib.itoa z).toArray⟩) hn W);rw [hr];clear hn hr h;unfold bL;generalize Lib.itoa z=t at *;go_enter Tryz.func188,Tryz.ntmps188
  go_wp2_with fail
  refine (HC.out _).mono ?_;rintro e w1 ⟨rfl,hb1⟩;go_wp2_with fail
  go_ret2
  exact ⟨⟨0,10,by simp,(fun h=>by cases h),rfl⟩,hb1⟩
theorem ak6 (N:Int) (d:Nat):(aW.iB N d).natAbs≤2*N.natAbs+d:=by
 unfold aW.iB;have h1:=Int.natAbs_ediv_le_natAbs (2*N+(d:Int)) (2*(d:Int));have h2:=Int.natAbs_add_le (2*N) (d:Int);rw [Int.natAbs_mul,Int.natAbs_natCast] at h2;omega
theorem XA (s t:ByteArray) (k:Int) (h:rd ⟨s,t⟩=none) (w:World) :
  Calls Tryz.prog 114 #[.agg #[.string s,.string t],.int .i64 k] w (fun e w'=>e= .returned (.tuple #[.int .i64 0,.int .i64 20])∧Below w.heap.size w w'):=by
 have HR:=zh (gu h);clear h;go_enter Tryz.func114,Tryz.ntmps114
 go_wp2_with fail
 refine (HR.out _).mono ?_;rintro e v1 ⟨rfl,hc1⟩;have BR:=ah.later (ah.new _ _ _) hc1;have bK:=BR.cell;have bJ:=BR.free;have iL:=BR.lt;go_wp2_with fail
 go_ret2
 exact ⟨rfl,aD⟩
theorem Xy (s t:ByteArray) (k:Nat) (q:Rat) (h:rd ⟨s,t⟩=some q) (k1:1≤k) (k2:(k:Int)≤1000000000000) (w:World) (ht:iR.Pow w) (he:whole.Er w) :
  Calls Tryz.prog 114 #[.agg #[.string s,.string t],.int .i64 (k:Int)] w (fun e w'=>e= .returned (if Kj (aW.iB (q.num*(k:Int)) q.den) then .tuple #[.int .i64 (aW.iB (q.num*(k:Int)) q.den),.int .i64 0] else .tuple #[.int .i64 0,.int .i64 6])∧Below w.heap.size w w'):=by
 have HR:=zh (fD h);have KP:=jr (mX h).2;have HK1:Hid (sz 1000000000 k≤1000000):=zh (by have:=aR (B:=1000000000) zo 2 k zo;omega);have HKN:Hid (sz 1000000000 q.num.natAbs≤1000000):=zh (Nat.le_trans KP.1 zo);have HKD:Hid (sz 1000000000 q.den≤1000000):=zh (Nat.le_trans KP.2 zo)
 have HZ:Hid (sz 1000000000 (aW.iB (q.num*(k:Int)) q.den).natAbs≤1099511627776):=by
  refine zh ?_;have h1:=dh (B:=1000000000) zo (ak6 (q.num*(k:Int)) q.den);have h2:=wV (B:=1000000000) zo (2*(q.num*(k:Int)).natAbs) q.den;have h3:=jL (B:=1000000000) zo 2 (q.num*(k:Int)).natAbs;have h4:=jL (B:=1000000000) zo q.num.natAbs k;have h5:=aR (B:=1000000000) zo 1 2 zo;rw [← Int.natAbs_natCast k,← Int.natAbs_mul,Int.natAbs_natCast k] at h4;have:=HK1.out;have:=HKN.out;have:=HKD.out;omega
 have HT:=zh ht;have HE:=zh he;have g1:decide ((k:Int)<1)=false:=decide_eq_false zo;have g2:decide ((1000000000000:Int)<(k:Int))=false:=decide_eq_false zo
 have g3:IntKind.u64.wrap (k:Int)=(k:Int):=by
  simp [IntKind.wrap,IntKind.bits,IntKind.signed]
  omega
 obtain ⟨z,Ez⟩:∃ y:Int,Hid (aW.iB (q.num*(k:Int)) q.den=y):=⟨_,zh rfl⟩;rw [Ez.out] at HZ ⊢;obtain ⟨R,ER⟩:∃ y:Value,Hid ((if Kj z then .tuple #[.int .i64 z,.int .i64 0] else .tuple #[.int .i64 0,.int .i64 6]:Value)=y):=⟨_,zh rfl⟩;rw [ER.out];have HK2:Hid (k≤18446744073709551615):=zh zo;clear ht he h KP k1 k2;go_enter Tryz.func114,Tryz.ntmps114
 go_wp2_with fail
 refine (HR.out _).mono ?_;rintro e v1 ⟨v,rfl,hc1,hv⟩;obtain ⟨Bw,XZ,BM,He,mHq,Ig,rfl,Hq,tV⟩:=hv;replace Hq:=zh Hq;replace tV:=zh tV;have BR:=ah.later (ah.new _ _ _) hc1;have bK:=BR.cell;have bJ:=BR.free;have iL:=BR.lt;go_wp2_with fail
 refine aF [(.read,0),(.pure,1),(.pure,2),(.ext,3),(.ext,4),(.ext,5),(.ext,6),(.pure,7),(.pure,8),(.pure,9),(.fin,10),(.fin,11)] zk zk zR zP ?_;refine zV ?_;refine aH rfl rfl (fun w3 hb3 J hJ=>?_);go_simp;replace Hq:=zh (aQ.carry Hq.out aI hb3);replace tV:=zh (aQ.carry tV.out aI hb3);refine (kW k _ HK2.out).mono ?_;rintro e v3 ⟨v,rfl,hc3,hv⟩;obtain ⟨Hf,lHs,Ih,rfl⟩:=hv.slice;have Hs:=zh hv;clear hv;replace Hq:=zh (aQ.later Hq.out hc3);replace tV:=zh (aQ.later tV.out hc3);refine hJ _ _ hc3 ?_;clear hJ J;refine aH rfl rfl (fun w4 hb4 J hJ=>?_);go_simp;refine ((ak4 _ _ q k _ (dZ.of aI aI) aI HKN.out HKD.out HK1.out).mono (by rw [Ez.out];exact fun _ _ h=>h)).mono ?_;rintro e v4 ⟨v,rfl,hc4,hv⟩;obtain ⟨bg3,lHn,bl3,rfl,Hn⟩:=hv;replace Hn:=zh Hn;refine hJ _ _ hc4 ?_;clear hJ J;refine aH rfl rfl (fun w5 hb5 J hJ=>?_);go_simp
 refine (Ti _ z _ (dB.dX aI) HZ.out (HT.out.later aD)).mono ?_;rintro e v5 ⟨rfl,nV⟩;refine hJ _ _ nV ?_;clear hJ J;refine aH rfl rfl (fun w6 hb6 J hJ=>?_);go_simp;refine (ap8 z _ (HE.out.later aD)).mono ?_;rintro e v6 ⟨⟨x,c,h1,h2,rfl⟩,hc6⟩;refine hJ _ _ hc6 ?_;clear hJ J;refine zV ?_;refine aU [_,_] rfl (fun w7 iJ=>?_);cases hz:Kj z with
 | true =>
  obtain rfl:=h1.2 hz;obtain rfl:=h2 hz;clear h1 h2;have hR: .tuple #[.int .i64 x,.int .i64 0]=R:=by rw [← ER.out,hz];rfl
  go_wp2_with fail
  go_ret2
  exact ⟨congrArg Ending.returned hR,aD⟩
 | false =>
  have hc:decide (c=0)=false:=decide_eq_false fun e=>by rw [h1.1 e] at hz;cases hz
  have hn:¬ c=0:=of_decide_eq_false hc;clear h1 h2;have hR: .tuple #[.int .i64 0,.int .i64 6]=R:=by rw [← ER.out,hz];rfl
  go_wp2_with fail
  all_goals go_ret2
  all_goals exact ⟨congrArg Ending.returned hR,aD⟩
theorem ap7 (n d:Int) (hl1:(Lib.decDigits n.natAbs).length≤600) (hl2:(Lib.decDigits d.natAbs).length≤600) (w:World) (ht:iR.Pow w) :
  Calls Tryz.prog 192 #[.string ⟨(Lib.itoa n).toArray⟩,.string ⟨(Lib.itoa d).toArray⟩] w (fun e w'=>e= .returned (Fr.res (qV n d))∧Below w.heap.size w w'):=by
 have HC:=zh (jJ (s:=⟨(Lib.itoa n).toArray⟩) (dO hl1));have HD:=zh (jJ (s:=⟨(Lib.itoa d).toArray⟩) (dO hl2));have HL1:=zh hl1;have HL2:=zh hl2;have S1:=jw (dI.2 hl1);have S2:=jw (dI.2 hl2);have HT:=zh ht;clear ht hl1 hl2
 by_cases h0:d=0
 ·have e:Fr.res (qV n d)= .tuple #[.agg #[.string ⟨#[]⟩,.string ⟨#[]⟩],.int .i64 7]:=by unfold qV;rw [if_pos h0];rfl
  rw [e];have hz:decide (d.natAbs=0)=true:=by simp;omega
  have HZ:=zh hz;clear e h0 hz S1 S2;go_enter Tryz.func192,Tryz.ntmps192
  go_wp2_with fail
  refine (HC.out _).mono ?_;rintro e v1 ⟨rfl,hc1⟩;have BR:=ah.later (ah.new _ _ _) hc1;have bK:=BR.cell;have bJ:=BR.free;have iL:=BR.lt;go_wp2_with fail
  refine (HD.out _).mono ?_;rintro e v2 ⟨rfl,hc2⟩;replace BR:=ah.later (BR) hc2;replace bK:=BR.cell;replace bJ:=BR.free;replace iL:=BR.lt;go_wp2_with fail
  refine (iX n HL1.out _).mono ?_;rintro e v3 ⟨v,rfl,hc3,hv⟩;obtain ⟨ai7,lHN,an7,rfl,HN⟩:=hv;replace HN:=zh HN;replace BR:=ah.later (BR) hc3;replace bK:=BR.cell;replace bJ:=BR.free;replace iL:=BR.lt;go_wp2_with fail
  refine (iX d HL2.out _).mono ?_;rintro e v4 ⟨v,rfl,hc4,hv⟩;obtain ⟨ai8,lHM,an8,rfl,HM⟩:=hv;replace HM:=zh HM;replace BR:=ah.later (BR) hc4;replace bK:=BR.cell;replace bJ:=BR.free;replace iL:=BR.lt;go_wp2_with fail
  refine (gF _ d.natAbs _ aI).mono ?_;rintro e v5 ⟨rfl,rfl⟩;rw [HZ.out];go_wp2_with fail
  refine aM rfl rfl aJ Tryz.underlying32 rfl zk ?_;exact ⟨rfl,aD⟩
 ·have e:qV n d=wr (mkRat (gT n.natAbs (!(decide (n<0) == decide (d<0)))) d.natAbs):=by unfold qV;rw [if_neg h0,ak7 n d h0]
  rw [e];have hz:decide (d.natAbs=0)=false:=by simp;omega
  have HZ:=zh hz;have hdp:0<d.natAbs:=by omega
  have HDP:=zh hdp;obtain ⟨f,Ef⟩:∃ y:Bool,Hid (Bool.not (decide (n<0) == decide (d<0))=y):=⟨_,zh rfl⟩;obtain ⟨s,Es⟩:∃ y:Int,Hid (gT n.natAbs f=y):=⟨_,zh rfl⟩;rw [Ef.out,Es.out];have hs:sz 1000000000 s.natAbs≤67:=by rw [← Es.out,jm];exact S1
  have KS:=zh (Nat.le_trans hs (show 67≤549755813888 by omega));have KD:=zh (Nat.le_trans S2 (show 67≤549755813888 by omega))
  have KQ:Hid (gZ 1000000 (mkRat s d.natAbs)):=by
   have hp:=uJ s hdp;refine zh ⟨?_,?_⟩
   ·rw [hp.1,jm];exact Nat.le_trans jl zo
   ·rw [hp.2];exact Nat.le_trans jl zo
  obtain ⟨q,Eq⟩:∃ y:Rat,Hid (mkRat s d.natAbs=y):=⟨_,zh rfl⟩;rw [Eq.out] at KQ ⊢;obtain ⟨x,Ex⟩:∃ y:FrI,Hid (wr q=y):=⟨_,zh rfl⟩;rw [Ex.out];clear e;obtain ⟨⟨s1,t1⟩,e⟩:=x;rw [qx];clear h0 hz hdp hs S1 S2;go_enter Tryz.func192,Tryz.ntmps192
  go_wp2_with fail
  refine (HC.out _).mono ?_;rintro e v1 ⟨rfl,hc1⟩;have BR:=ah.later (ah.new _ _ _) hc1;have bK:=BR.cell;have bJ:=BR.free;have iL:=BR.lt;go_wp2_with fail
  refine (HD.out _).mono ?_;rintro e v2 ⟨rfl,hc2⟩;replace BR:=ah.later (BR) hc2;replace bK:=BR.cell;replace bJ:=BR.free;replace iL:=BR.lt;go_wp2_with fail
  refine (iX n HL1.out _).mono ?_;rintro e v3 ⟨v,rfl,hc3,hv⟩;obtain ⟨ai7,lHN,an7,rfl,HN⟩:=hv;replace HN:=zh HN;replace BR:=ah.later (BR) hc3;replace bK:=BR.cell;replace bJ:=BR.free;replace iL:=BR.lt;go_wp2_with fail
  refine (iX d HL2.out _).mono ?_;rintro e v4 ⟨v,rfl,hc4,hv⟩;obtain ⟨ai8,lHM,an8,rfl,HM⟩:=hv;replace HM:=zh HM;replace HN:=zh (aQ.later HN.out hc4);replace BR:=ah.later (BR) hc4;replace bK:=BR.cell;replace bJ:=BR.free;replace iL:=BR.lt;go_wp2_with fail
  refine (gF _ d.natAbs _ aI).mono ?_;rintro e v5 ⟨rfl,rfl⟩;rw [HZ.out];go_wp2_with fail
  refine aF [(.pure,0),(.read,1),(.pure,2),(.read,3),(.pure,4),(.read,5),(.pure,6),(.pure,8),(.read,9),(.ext,7),(.ext,10),(.ext,11),(.pure,12),(.pure,13),(.fin,14),(.fin,15)] zk zk zR zP ?_;refine zV ?_;refine aH rfl rfl (fun w6 hb6 J hJ=>?_);go_simp;replace HM:=zh (aQ.carry HM.out aI hb6);replace BR:ah _ (w.heap.size) _ _:=ah.later aJ hb6;(try simp only [List.setIfInBounds_toArray,List.set_cons_zero,List.set_cons_succ] at BR);replace bK:=BR.cell;replace bJ:=BR.free;replace iL:=BR.lt;refine ((dJ _ n.natAbs _ _ aI).mono (by rw [show (Bool.not (decide (n<0) == decide (d<0)))=f from Ef.out,Es.out];exact fun _ _ h=>h)).mono ?_;rintro e v6 ⟨v,rfl,hc6,hv⟩;obtain ⟨Hf,lHs,Ih,rfl,Hs⟩:=hv;replace Hs:=zh Hs;replace HM:=zh (aQ.later HM.out hc6);replace BR:=ah.later (BR) hc6;replace bK:=BR.cell;replace bJ:=BR.free;replace iL:=BR.lt;refine hJ _ _ hc6 ?_
  clear hJ J;refine aH rfl rfl (fun w7 iJ J hJ=>?_);go_simp;replace HM:=zh (aQ.later HM.out iJ);replace Hs:=zh (aQ.later Hs.out iJ);replace BR:=ah.later (BR) iJ;replace bK:=BR.cell;replace bJ:=BR.free;replace iL:=BR.lt;refine ((PN _ _ s d.natAbs _ (dB.dX aI) aI HDP.out KS.out KD.out).mono (by rw [Eq.out];exact fun _ _ h=>h)).mono ?_;rintro e v7 ⟨v,rfl,Kn,hv⟩;obtain ⟨Bw,XZ,BM,He,mHq,Ig,rfl,Hq,tV⟩:=hv;replace Hq:=zh Hq;replace tV:=zh tV;replace HM:=zh (aQ.later HM.out Kn);replace Hs:=zh (aQ.later Hs.out Kn);replace BR:=ah.later (BR) Kn;replace bK:=BR.cell;replace bJ:=BR.free;replace iL:=BR.lt;refine hJ _ _ Kn ?_;clear hJ J;refine aH rfl rfl (fun w8 qN J hJ=>?_);go_simp;replace BR:=ah.later (BR) qN;replace bK:=BR.cell;replace bJ:=BR.free;replace iL:=BR.lt
  refine ((jO _ q _ (dZ.of aI aI) KQ.out (HT.out.later aD)).mono (by rw [Ex.out,qx];exact fun _ _ h=>h)).mono ?_;rintro e v8 ⟨rfl,hc8⟩;replace BR:=ah.later (BR) hc8;replace bK:=BR.cell;replace bJ:=BR.free;replace iL:=BR.lt;refine hJ _ _ hc8 ?_;clear hJ J;refine zV ?_;refine aU [_,_] rfl (fun w9 tT=>?_);replace BR:=ah.later (BR) tT;replace bK:=BR.cell;replace bJ:=BR.free;replace iL:=BR.lt;go_wp2_with fail
  refine aM rfl rfl aJ Tryz.underlying32 rfl zk ?_;exact ⟨rfl,aD⟩
theorem Ux (z:Int) (h0: -9223372036854775808≤z) (h1:z≤9223372036854775807):(Lib.decDigits z.natAbs).length≤600 :=
 Nat.le_trans (ko 19 z.natAbs zo zo) zo
theorem nG (n d:Int) (n0: -9223372036854775808≤n) (n1:n≤9223372036854775807) (d0: -9223372036854775808≤d) (d1:d≤9223372036854775807) (w:World) (ht:iR.Pow w) :
  Calls Tryz.prog 115 #[.int .i64 n,.int .i64 d] w (fun e w'=>e= .returned (Fr.res (qV n d))∧Below w.heap.size w w'):=by
 have H1:=zh (fun w ht=>whole.AU n n0 n1 w ht);have H2:=zh (fun w ht=>whole.AU d d0 d1 w ht);have H3:=zh (fun w ht=>ap7 n d (Ux n n0 n1) (Ux d d0 d1) w ht);have HT:=zh ht;clear ht n0 n1 d0 d1;obtain ⟨x,Ex⟩:∃ y:FrI,Hid (qV n d=y):=⟨_,zh rfl⟩;rw [Ex.out];obtain ⟨⟨s1,t1⟩,e⟩:=x;rw [qx];go_enter Tryz.func115,Tryz.ntmps115
 go_wp2_with fail
 refine ((H1.out _ (HT.out.later aD)).mono (fun _ _ h=>by unfold bL at h;exact h)).mono ?_;rintro e v1 ⟨rfl,hc1⟩;have BR:=ah.later (ah.new _ _ _) hc1;have bK:=BR.cell;have bJ:=BR.free;have iL:=BR.lt;go_wp2_with fail
 refine ((H2.out _ (HT.out.later aD)).mono (fun _ _ h=>by unfold bL at h;exact h)).mono ?_;rintro e v2 ⟨rfl,hc2⟩;replace BR:=ah.later (BR) hc2;replace bK:=BR.cell;replace bJ:=BR.free;replace iL:=BR.lt;go_wp2_with fail
 refine ((H3.out _ (HT.out.later aD)).mono (by rw [Ex.out,qx];exact fun _ _ h=>h)).mono ?_;rintro e v3 ⟨rfl,hc3⟩;replace BR:=ah.later (BR) hc3;replace bK:=BR.cell;replace bJ:=BR.free;replace iL:=BR.lt;go_wp2_with fail
 refine aM rfl rfl aJ Tryz.underlying32 rfl zk ?_;exact ⟨rfl,aD⟩
end Go.Proofs.dA
namespace Go.Proofs.aW
open Go Go.RowKit Go.SW Go.Num Go.Mem Go.Proofs Go.Dec Go.fF
theorem ak5 (z:Int) {E:Nat} (hE:0<E) (hz:z.natAbs<9223372036854775809) (hE2:E<9223372036854775809) :
  ∃ s t,Fr.res (qV z (E:Int))= .tuple #[.agg #[.string s,.string t],.int .i64 0]∧rd ⟨s,t⟩=some ((z:Rat) / ((E:Nat):Rat)):=by
 have hk:vL ((z:Rat) / ((E:Nat):Rat))=true:=by
  rw [← Rat.mkRat_eq_div];have hp:=uJ z hE;have ht:9223372036854775809≤ig 600:=by unfold ig;decide+kernel
  unfold vL jd;rw [Bool.and_eq_true];refine ⟨decide_eq_true ?_,decide_eq_true ?_⟩
  ·rw [hp.1,jm];have:=Nat.div_le_self z.natAbs (z.natAbs.gcd E);omega
  ·rw [hp.2];have:=Nat.div_le_self E (z.natAbs.gcd E);omega
 refine ⟨(Fr.of ((z:Rat) / ((E:Nat):Rat))).n,(Fr.of ((z:Rat) / ((E:Nat):Rat))).d,?_,Tw hk⟩;unfold qV wr;rw [if_neg zo,Rat.intCast_natCast,if_pos hk];rfl
theorem aT5 (o:Int):∃ m:Int,(m=if o<0 then o else 0)∧(∀ (ts:Array TypeId) (t:TypeId) (W:World),(Builtin.min_ ts t #[.int .i64 o,.int .i64 0]).run Tryz.prog W= .ok (.int .i64 m) W):=by
 by_cases h:o<0
 ·refine ⟨o,by rw [if_pos h],fun ts t W=>?_⟩;have h1:¬ (0:Int)<o:=by omega
  rw [run_min_int2];simp [h1]
 ·refine ⟨0,by rw [if_neg h],fun ts t W=>?_⟩;rw [run_min_int2]
  by_cases h1:(0:Int)<o
  ·simp [h1]
  ·obtain rfl:o=0:=by omega
   simp
theorem aT6 (o:Int):∃ m:Int,(m=if 0<o then o else 0)∧(∀ (ts:Array TypeId) (t:TypeId) (W:World),(Builtin.max_ ts t #[.int .i64 o,.int .i64 0]).run Tryz.prog W= .ok (.int .i64 m) W):=by
 by_cases h:0<o
 ·refine ⟨o,by rw [if_pos h],fun ts t W=>?_⟩;have h1:¬ o<(0:Int):=by omega
  rw [run_max_int2];simp [h1]
 ·refine ⟨0,by rw [if_neg h],fun ts t W=>?_⟩;rw [run_max_int2]
  by_cases h1:o<(0:Int)
  ·simp [h1]
  ·obtain rfl:o=0:=by omega
   simp
theorem Gh (s t:ByteArray) (k:Int) (hk:¬ k=0) (w:World) (HN:Hid (∀ W,Below w.heap.size w W→Calls Tryz.prog 114 #[.agg #[.string s,.string t],.int .i64 1000000000000] W (fun e w'=>e= .returned (.tuple #[.int .i64 0,.int .i64 k])∧Below W.heap.size W w'))) :
  Calls Tryz.prog 36 #[.agg #[.string s,.string t]] w (fun e w'=>e= .returned (aY ((0,0),k))∧Below w.heap.size w w'):=by
 unfold aY;have hk0:decide (k=0)=false:=decide_eq_false hk;go_enter Tryz.func36,Tryz.ntmps36
 go_wp2_with fail
 refine (HN.out _ aD).mono ?_;rintro e v1 ⟨rfl,hc1⟩;have BR:=ah.later (ah.pF _ _ _ _) hc1;have bK:=BR.cell;have bJ:=BR.free;have iL:=BR.lt;go_wp2_with fail
 refine aM rfl rfl aJ Tryz.underlying40 rfl zk ?_;exact ⟨rfl,aD⟩
theorem Ot (s t s1 t1:ByteArray) (z o:Int) (w:World) (ho: -1≤o∧o≤1) (HN:Hid (∀ W,Below w.heap.size w W→Calls Tryz.prog 114 #[.agg #[.string s,.string t],.int .i64 1000000000000] W (fun e w'=>e= .returned (.tuple #[.int .i64 z,.int .i64 0])∧Below W.heap.size W w')))
  (HO:Hid (∀ W,Below w.heap.size w W→Calls Tryz.prog 115 #[.int .i64 z,.int .i64 1000000000000] W (fun e w'=>e= .returned (.tuple #[.agg #[.string s1,.string t1],.int .i64 0])∧Below W.heap.size W w')))
  (HC:Hid (∀ W,Calls Tryz.prog 19 #[.agg #[.string s,.string t],.agg #[.string s1,.string t1]] W (fun e w'=>e= .returned (.tuple #[.int .i64 o,.int .i64 0])∧Below W.heap.size W w'))) :
  Calls Tryz.prog 36 #[.agg #[.string s,.string t]] w (fun e w'=>e= .returned (aY (if dY z z then dK (z+(if o<0 then -1 else 0)) (z+(if 0<o then 1 else 0)) else ((0,0),6)))∧Below w.heap.size w w'):=by
 have HV:=zh (fun W=>mO z z W);cases hb:dY z z with
 | false =>
  rw [if_neg zi];unfold aY;rw [hb] at HV;clear hb ho;go_enter Tryz.func36,Tryz.ntmps36
  go_wp2_with fail
  refine (HN.out _ aD).mono ?_;rintro e v1 ⟨rfl,hc1⟩;have BR:=ah.later (ah.pF _ _ _ _) hc1;have bK:=BR.cell;have bJ:=BR.free;have iL:=BR.lt;have B0:=ah.later (ah.alloc (ah.new _ _ _) _) hc1;have cB0:=B0.cell;have jE:=B0.free;have lB0:=B0.lt;go_wp2_with fail
  refine (HO.out _ aD).mono ?_;rintro e v2 ⟨rfl,hc2⟩;replace BR:=ah.later (BR) hc2;replace bK:=BR.cell;replace bJ:=BR.free;replace iL:=BR.lt;replace B0:=ah.later (B0) hc2;replace cB0:=B0.cell;replace jE:=B0.free;replace lB0:=B0.lt;go_wp2_with fail
  refine (HC.out _).mono ?_;rintro e v3 ⟨rfl,hc3⟩;replace BR:ah _ (w.heap.size+1) _ _:=ah.later aJ hc3;(try simp only [List.setIfInBounds_toArray,List.set_cons_zero,List.set_cons_succ] at BR);replace bK:=BR.cell;replace bJ:=BR.free;replace iL:=BR.lt;go_wp2_with fail
  refine (HV.out _).mono ?_;rintro e v4 ⟨rfl,hc4⟩;replace BR:=ah.later (BR) hc4;replace bK:=BR.cell;replace bJ:=BR.free;replace iL:=BR.lt;go_wp2_with fail
  refine aM rfl rfl aJ Tryz.underlying40 rfl zk ?_;exact ⟨rfl,aD⟩
 | true =>
  rw [if_pos rfl];rw [hb] at HV;obtain ⟨l,hl,hmin⟩:=aT5 o;obtain ⟨m,hm,hmax⟩:=aT6 o;have el:(if o<0 then (-1:Int) else 0)=l:=by rw [hl];by_cases h:o<0<;>simp only [if_pos,if_neg,h,if_true,if_false]<;>omega
  have em:(if 0<o then (1:Int) else 0)=m:=by rw [hm];by_cases h:0<o<;>simp only [if_pos,if_neg,h,if_true,if_false]<;>omega
  rw [el,em]
  have hr: -1000000000000000000≤z∧z≤1000000000000000000:=by
   unfold dY at hb;simp only [Bool.and_eq_true,decide_eq_true_eq] at hb;omega
  have hl2: -1≤l∧l≤0:=by rw [← el];by_cases h:o<0<;>simp [h]
  have hm2:0≤m∧m≤1:=by rw [← em];by_cases h:0<o<;>simp [h]
  have w1:IntKind.i64.wrap (z+l)=z+l:=by simp [IntKind.wrap,IntKind.bits,IntKind.signed];omega
  have w2:IntKind.i64.wrap (z+m)=z+m:=by simp [IntKind.wrap,IntKind.bits,IntKind.signed];omega
  have HM:=zh (fun W=>iM (z+l) (z+m) W);clear hb ho hl hm el em hr hl2 hm2;generalize dK (z+l) (z+m)=x at *;obtain ⟨⟨x1,x2⟩,x3⟩:=x;unfold aY at *;simp only at *;go_enter Tryz.func36,Tryz.ntmps36
  go_wp2_with fail
  refine (HN.out _ aD).mono ?_;rintro e v1 ⟨rfl,hc1⟩;have BR:=ah.later (ah.pF _ _ _ _) hc1;have bK:=BR.cell;have bJ:=BR.free;have iL:=BR.lt;have B0:=ah.later (ah.alloc (ah.new _ _ _) _) hc1;have cB0:=B0.cell;have jE:=B0.free;have lB0:=B0.lt;go_wp2_with fail
  refine (HO.out _ aD).mono ?_;rintro e v2 ⟨rfl,hc2⟩;replace BR:=ah.later (BR) hc2;replace bK:=BR.cell;replace bJ:=BR.free;replace iL:=BR.lt;replace B0:=ah.later (B0) hc2;replace cB0:=B0.cell;replace jE:=B0.free;replace lB0:=B0.lt;go_wp2_with fail
  refine (HC.out _).mono ?_;rintro e v3 ⟨rfl,hc3⟩;replace BR:ah _ (w.heap.size+1) _ _:=ah.later aJ hc3;(try simp only [List.setIfInBounds_toArray,List.set_cons_zero,List.set_cons_succ] at BR);replace bK:=BR.cell;replace bJ:=BR.free;replace iL:=BR.lt;go_wp2_with fail
  refine (HV.out _).mono ?_;rintro e v4 ⟨rfl,hc4⟩;replace BR:=ah.later (BR) hc4;replace bK:=BR.cell;replace bJ:=BR.free;replace iL:=BR.lt;go_wp2_with fail
  refine (HM.out _).mono ?_;rintro e v5 ⟨rfl,nV⟩;replace BR:=ah.later (BR) nV;replace bK:=BR.cell;replace bJ:=BR.free;replace iL:=BR.lt;go_wp2_with fail
  refine aM rfl rfl aJ Tryz.underlying40 rfl zk ?_;exact ⟨rfl,aD⟩
def iC (a:Fr):(Int × Int) × Int:=match rd a with
 | some q=>dK (pG (q.num*1000000000000) q.den false) (pG (q.num*1000000000000) q.den true)
 | none=>((0,0),20)
theorem Aw (a:Fr) (w:World) (ht:iR.Pow w) (he:whole.Er w) :
  Calls Tryz.prog 36 #[a.v] w (fun e w'=>e= .returned (aY (iC a))∧Below w.heap.size w w'):=by
 obtain ⟨s,t⟩:=a
 show Calls _ _ #[.agg #[.string s,.string t]] _ _
 unfold iC;cases h:rd ⟨s,t⟩ with
 | none=>exact Gh s t 20 zo w (zh fun W _=>dA.XA s t 1000000000000 h W)
 | some q =>
  have hd:0<q.den:=q.den_pos;simp only;rw [← aC9 _ hd];have hn:∀ W,Below w.heap.size w W→ _:=fun W hW=>dA.Xy s t 1000000000000 q h zo zo W (ht.later hW) (he.later hW);have e1:((1000000000000:Nat):Int)=1000000000000:=rfl;rw [e1] at hn;unfold arE;unfold dA.Kj at hn;generalize hz:iB (q.num*1000000000000) q.den=z at *
  by_cases c: -9223372036854775808≤z∧z<9223372036854775808
  ·rw [if_pos c];rw [decide_eq_true c,if_pos rfl] at hn;obtain ⟨s1,t1,hof,hrd⟩:=ak5 z (E:=1000000000000) zo zo zo;rw [e1] at hof;have hc:=fun W=>dA.Av ⟨s,t⟩ ⟨s1,t1⟩ W;have hce:uY ⟨s,t⟩ ⟨s1,t1⟩=(pJ q ((z:Rat) / ((1000000000000:Nat):Rat)),0):=by unfold uY;rw [h,hrd]
   rw [hce,WV q z zo,e1] at hc;have aL2:∀ W,Below w.heap.size w W→ _:=fun W hW=>dA.nG z 1000000000000 zo zo zo zo W (ht.later hW);rw [hof] at aL2;refine (Ot s t s1 t1 z _ w ?_ (zh hn) (zh aL2) (zh hc)).mono ?_
   ·split
    ·omega
    ·split<;>omega
   ·rintro e w1 ⟨rfl,hb⟩;refine ⟨?_,hb⟩
    congr 2
    by_cases h1:q.num*1000000000000<z*(q.den:Int)
    ·have h2:¬ z*(q.den:Int)<q.num*1000000000000:=by omega
     simp [h1,h2]
    ·by_cases h2:z*(q.den:Int)<q.num*1000000000000
     ·simp [h1,h2]
     ·simp [h1,h2]
  ·rw [if_neg c];rw [decide_eq_false c,if_neg zi] at hn;exact Gh s t 6 zo w (zh hn)
theorem Rc (n:Int) (s t:ByteArray) (w:World) (h1: -9223372036854775808≤n) (h2:n≤9223372036854775807) (ht:iR.Pow w) (he:qV n 1000000000000=(⟨s,t⟩,0)) :
  Calls Tryz.prog 196 #[.int .i64 n] w (fun e w'=>e= .returned (.tuple #[.agg #[.string s,.string t],.int .i64 0])∧Below w.heap.size w w'):=by
 have H:=zh (fun W (h:iR.Pow W)=>dA.nG n 1000000000000 h1 h2 zo zo W h);rw [he] at H;unfold Fr.res Fr.v at H;have HP:=zh ht;clear he ht h1 h2;go_enter Tryz.func196,Tryz.ntmps196
 go_wp2_with fail
 obtain ⟨wx,EW,hz,HR⟩:=wO w #[.string ⟨#[]⟩,.string ⟨#[]⟩] 32;rw [EW];clear EW;refine (H.out _ (HP.out.later hz)).mono ?_;rintro e w1 ⟨rfl,hb⟩;have hr:=HR.out.later hb;have cr:=hr.cell;have fr:=hr.free;have hw:=Bt hz hb;go_wp2_with fail
 refine aM rfl rfl ((hr.set 0 _).set 1 _) Tryz.underlying32 rfl zk ?_;exact ⟨rfl,(hw.setCell (p:=⟨w.heap.size,0,none⟩) (Nat.le_refl _) _).setCell (p:=⟨w.heap.size,1,none⟩) (Nat.le_refl _) _⟩
def an2 (a b:Int × Int):(Int × Int) × Int:=if b.1≤0∧0≤b.2 then ((0,0),7) else qp (fun x y up=>jQ x 1000000000000 y up) a b
def Rf (a b:Int × Int):(Int × Int) × Int:=if okB [a,b] then an2 a b else ((0,0),30)
def ah6 (b:Int × Int) (n d:Int):(Int × Int) × Int:=if n< -1000000000000∨1000000000000<n∨d<1∨1000000000000<d then ((0,0),2) else qp (fun x y up=>jQ x y d up) b (n,n)
def sV (b:Int × Int) (n d:Int):(Int × Int) × Int:=if okB [b] then ah6 b n d else ((0,0),30)
def an6 (b:Int × Int) (lo hi:Int):(Int × Int) × Int:=if dY lo hi then dK (min (max b.1 lo) hi) (min (max b.2 lo) hi) else ((0,0),2)
def Rm (b:Int × Int) (lo hi:Int):(Int × Int) × Int:=if okB [b] then an6 b lo hi else ((0,0),30)
def ptE (n:Int):(Int × Int) × Int:=if dY n n then ((n,n),0) else ((0,0),30)
theorem Qk {lo hi:Int} (h:dY lo hi=true):lo.natAbs≤1000000000000000000∧hi.natAbs≤1000000000000000000∧lo≤hi:=by
 obtain ⟨h1,h2,h3⟩: -1000000000000000000≤lo∧lo≤hi∧hi≤1000000000000000000:=by simpa [dY] using h
 exact ⟨by omega,by omega,h2⟩
theorem TA {a:Int × Int} (h:dY a.1 a.2=true) (k:Nat):(TD a k).natAbs≤1000000000000000000:=by
 unfold TD;have:=Qk h;split<;>omega
theorem ai3 {a:Int × Int} (h:dY a.1 a.2=true) (k:Nat):(OX a k).natAbs≤1000000000000000000:=by
 unfold OX;have:=Qk h;split<;>omega
theorem aq3 (x y:Int) (up:Bool) (hx:x.natAbs≤1000000000000000000) (hy:y≠0) (hy2:y.natAbs≤1000000000000000000) (w:World) :
  Calls Tryz.prog 161 #[.int .i64 x,.int .i64 y,.bool up] w (fun e w'=>e= .returned (.tuple #[.int .i64 (jQ x 1000000000000 y up).1,.bool (jQ x 1000000000000 y up).2])∧Below w.heap.size w w'):=by
 have H:=zh (fun W=>Df x 1000000000000 y up hx zo hy hy2 W);generalize jQ x 1000000000000 y up=z at *;obtain ⟨z1,z2⟩:=z;simp only at *;clear hx hy hy2;go_enter Tryz.func161,Tryz.ntmps161
 go_wp2_with fail
 refine (H.out _).mono ?_;rintro e w1 ⟨rfl,hb⟩;go_wp2_with fail
 go_ret2
 exact ⟨rfl,hb⟩
theorem aq4 (x y z t:Int) (h0:okB [(x,y),(z,t)]=true) (b c:Nat) (w:World) (h:ah w b #[.int .i64 x,.int .i64 y] 40) (k:ah w c #[.int .i64 z,.int .i64 t] 40) :
  Calls Tryz.prog 160 #[.pointer (some ⟨c,0,none⟩),.pointer (some ⟨b,0,none⟩)] w (fun e w'=>e= .returned (aY (an2 (x,y) (z,t)))∧Below w.heap.size w w'):=by
 have h0':dY x y=true∧dY z t=true:=by simpa [okB] using h0
 have ha:=TA (a:=(x,y)) h0'.1;have hc:=ai3 (a:=(z,t)) h0'.2;obtain ⟨z1,z2,z3⟩:=Qk h0'.2
 have H:Hid (¬ (z≤0∧0≤t)→∀ W,Calls Tryz.prog 100 #[.agg #[.int .i64 x,.int .i64 y],.agg #[.int .i64 z,.int .i64 t],.func (.func 161) #[] #[]] W (fun e w'=>e= .returned (aY (qp (fun x y up=>jQ x 1000000000000 y up) (x,y) (z,t)))∧Below W.heap.size W w')):=zh fun hn W =>
  wY (fun x y up=>jQ x 1000000000000 y up) 161 #[] x y z t W (fun k up W' _=>aq3 _ _ up (ha k) (by unfold OX;split<;>simp only<;>omega) (hc k) W') (fun args W=>by rfl)
 have e:an2 (x,y) (z,t)=if z≤0∧0≤t then ((0,0),7) else qp (fun x y up=>jQ x 1000000000000 y up) (x,y) (z,t):=rfl
 rw [e];generalize qp (fun x y up=>jQ x 1000000000000 y up) (x,y) (z,t)=m at *;clear h0 h0' ha hc z1 z2 z3 e;obtain ⟨⟨m1,m2⟩,m3⟩:=m;have HX:=zh h;have HY:=zh k;clear h k
 by_cases hn:z≤0∧0≤t
 ·rw [if_pos hn];obtain ⟨g1,g2⟩:=hn;unfold aY at *;simp only at *;clear H;obtain ⟨cx,lx,fx⟩:=HY.clf;go_enter Tryz.func160,Tryz.ntmps160
  go_wp2_with fail
  have hx:=ah.new w #[.int .i64 0,.int .i64 0] 40;refine aM rfl rfl aJ Tryz.underlying40 rfl zk ?_;exact ⟨rfl,aD⟩
 ·rw [if_neg hn];replace H:=zh (H.out hn);unfold aY at *;simp only at *
  have g:decide (z≤0)=false∨(decide (z≤0)=true∧decide (0≤t)=false):=by
   by_cases g1:z≤0
   ·exact .inr ⟨decide_eq_true g1,decide_eq_false (fun g2=>hn ⟨g1,g2⟩)⟩
   ·exact .inl (decide_eq_false g1)
  clear hn;obtain ⟨cx,lx,fx⟩:=HX.clf;obtain ⟨cy,ly,fy⟩:=HY.clf
  rcases g with g1|⟨g1,g2⟩
  all_goals
   simp only [decide_eq_false_iff_not,decide_eq_true_eq] at *;go_enter Tryz.func160,Tryz.ntmps160
   go_wp2_with fail
   refine (H.out _).mono ?_;rintro e w1 ⟨rfl,hb1⟩;have hx:=ah.later (ah.new w #[.int .i64 0,.int .i64 0] 40) hb1;have cr:=hx.cell;have fr:=hx.free;have lr:=hx.lt;have hw:=Bt (show Below w.heap.size w (w.alloc (.cells #[.int .i64 0,.int .i64 0] 40)) from aD) hb1;go_wp2_with fail
   refine aM rfl rfl aJ Tryz.underlying40 rfl zk ?_;exact ⟨rfl,aD⟩
theorem nJ (x y z t:Int) (w:World):Calls Tryz.prog 74 #[.agg #[.int .i64 x,.int .i64 y],.agg #[.int .i64 z,.int .i64 t]] w (fun e w'=>e= .returned (aY (Rf (x,y) (z,t)))∧Below w.heap.size w w'):=by
 have H:Hid (∀ W b c d,ah W b #[.int .i64 x,.int .i64 y] 40→ah W c #[.int .i64 z,.int .i64 t] 40→ah W d #[.int .i64 x,.int .i64 y,.int .i64 z,.int .i64 t] 40→Calls Tryz.prog 97 #[.func (.func 160) #[] #[.pointer (some ⟨c,0,none⟩),.pointer (some ⟨b,0,none⟩)],.slice (some ⟨d,0,none⟩) 2 2] W (fun e w'=>e= .returned (aY (Rf (x,y) (z,t)))∧Below W.heap.size W w')):=zh fun W b c d h1 h2 h3 =>
  kC 160 #[.pointer (some ⟨c,0,none⟩),.pointer (some ⟨b,0,none⟩)] _ _ _ _ W (zK.two h3) (fun h W' hW'=>aq4 x y z t h b c W' (h1.later hW') (h2.later hW')) (fun args W=>by rfl)
 generalize Rf (x,y) (z,t)=m at *;obtain ⟨⟨m1,m2⟩,m3⟩:=m;unfold aY at *;simp only at *;go_enter Tryz.func74,Tryz.ntmps74
 go_wp2_with fail
 obtain ⟨wx,EW,hz,X,Y,R,Z⟩:=al4 w #[.int .i64 x,.int .i64 y] 40 #[.int .i64 z,.int .i64 t] 40 #[.int .i64 0,.int .i64 0] 40 #[.int .i64 x,.int .i64 y,.int .i64 z,.int .i64 t] 40;rw [EW];clear EW;have HB:=zh hz;clear hz;refine (H.out _ _ _ _ X.out Y.out Z.out).mono ?_;rintro e w1 ⟨rfl,hb1⟩;replace R:=R.bl hb1;replace HB:=zh (Bt HB.out hb1);clear hb1 H;have hx:=R.out;have cx:=hx.cell;have fx:=hx.free;have lx:=hx.lt;have hw:=HB.out;go_wp2_with fail
 refine aM rfl rfl aJ Tryz.underlying40 rfl zk ?_;exact ⟨rfl,aD⟩
theorem Xt (x y d:Int) (up:Bool) (hx:x.natAbs≤1000000000000000000) (hy:y.natAbs≤1000000000000000000) (hd:d≠0) (hd2:d.natAbs≤1000000000000000000) (c:Nat) (w:World) (h:ah w c #[.int .i64 d] 3) :
  Calls Tryz.prog 204 #[.int .i64 x,.int .i64 y,.bool up,.pointer (some ⟨c,0,none⟩)] w (fun e w'=>e= .returned (.tuple #[.int .i64 (jQ x y d up).1,.bool (jQ x y d up).2])∧Below w.heap.size w w'):=by
 have H:=zh (fun W=>Df x y d up hx hy hd hd2 W);generalize jQ x y d up=z at *;obtain ⟨z1,z2⟩:=z;have cc:=h.cell;have lc:=h.lt;simp only at *;clear hx hy hd hd2 h;go_enter Tryz.func204,Tryz.ntmps204
 go_wp2_with fail
 refine (H.out _).mono ?_;rintro e w1 ⟨rfl,hb⟩;go_wp2_with fail
 go_ret2
 exact ⟨rfl,hb⟩
theorem Xu (x y n d:Int) (h0:okB [(x,y)]=true) (bn bd b:Nat) (w:World) (hn:ah w bn #[.int .i64 n] 3) (hd:ah w bd #[.int .i64 d] 3) (h:ah w b #[.int .i64 x,.int .i64 y] 40) :
  Calls Tryz.prog 203 #[.pointer (some ⟨bn,0,none⟩),.pointer (some ⟨bd,0,none⟩),.pointer (some ⟨b,0,none⟩)] w (fun e w'=>e= .returned (aY (ah6 (x,y) n d))∧Below w.heap.size w w'):=by
 have h0':dY x y=true:=by simpa [okB] using h0
 have ha:=TA (a:=(x,y)) h0'
 have H:Hid (¬ (n< -1000000000000∨1000000000000<n∨d<1∨1000000000000<d)→∀ W,Below w.heap.size w W→Calls Tryz.prog 100 #[.agg #[.int .i64 x,.int .i64 y],.agg #[.int .i64 n,.int .i64 n],.func (.func 204) #[] #[.pointer (some ⟨bd,0,none⟩)]] W (fun e w'=>e= .returned (aY (qp (fun x y up=>jQ x y d up) (x,y) (n,n)))∧Below W.heap.size W w')):=zh fun hg W hW =>
  wY (fun x y up=>jQ x y d up) 204 #[.pointer (some ⟨bd,0,none⟩)] x y n n W (fun k up W' hW'=>Xt _ _ d up (ha k) (by unfold OX;split<;>simp only<;>omega) zo zo bd W' ((hd.later hW).later hW')) (fun args W=>by rfl)
 have e:ah6 (x,y) n d=if n< -1000000000000∨1000000000000<n∨d<1∨1000000000000<d then ((0,0),2) else qp (fun x y up=>jQ x y d up) (x,y) (n,n):=rfl
 rw [e];generalize qp (fun x y up=>jQ x y d up) (x,y) (n,n)=m at *;obtain ⟨⟨m1,m2⟩,m3⟩:=m;have HX:=zh h;have HN:=zh hn;have HD:=zh hd;clear h0 h0' ha e h hn hd;obtain ⟨cn,ln,fn⟩:=HN.clf;obtain ⟨cd,ld,fd⟩:=HD.clf
 by_cases hg:n< -1000000000000∨1000000000000<n∨d<1∨1000000000000<d
 ·rw [if_pos hg];clear H;have g:n< -1000000000000∨(¬ n< -1000000000000∧1000000000000<n)∨(¬ n< -1000000000000∧¬ 1000000000000<n∧d<1)∨(¬ n< -1000000000000∧¬ 1000000000000<n∧¬ d<1∧1000000000000<d):=by omega
  clear hg;unfold aY;simp only
  rcases g with g1|⟨g1,g2⟩|⟨g1,g2,g3⟩|⟨g1,g2,g3,g4⟩
  all_goals
   go_enter Tryz.func203,Tryz.ntmps203
   go_wp2_with fail
   have hx:=ah.new w #[.int .i64 0,.int .i64 0] 40;refine aM rfl rfl aJ Tryz.underlying40 rfl zk ?_;exact ⟨rfl,aD⟩
 ·rw [if_neg hg];replace H:=zh (H.out hg);have g1:¬ n< -1000000000000:=by omega
  have g2:¬ 1000000000000<n:=by omega
  have g3:¬ d<1:=by omega
  have g4:¬ 1000000000000<d:=by omega
  clear hg;unfold aY at *;simp only at *;obtain ⟨cx,lx,fx⟩:=HX.clf;go_enter Tryz.func203,Tryz.ntmps203
  go_wp2_with fail
  refine (H.out _ aD).mono ?_;rintro e w1 ⟨rfl,hb1⟩;have hx:=ah.later (ah.new w #[.int .i64 0,.int .i64 0] 40) hb1;have cr:=hx.cell;have fr:=hx.free;have lr:=hx.lt;have hw:=Bt (show Below w.heap.size w (w.alloc (.cells #[.int .i64 0,.int .i64 0] 40)) from aD) hb1;go_wp2_with fail
  refine aM rfl rfl aJ Tryz.underlying40 rfl zk ?_;exact ⟨rfl,aD⟩
theorem XW (x y lo hi:Int) (h0:okB [(x,y)]=true) (bn bd b:Nat) (w:World) (hn:ah w bn #[.int .i64 lo] 3) (hd:ah w bd #[.int .i64 hi] 3) (h:ah w b #[.int .i64 x,.int .i64 y] 40) :
  Calls Tryz.prog 159 #[.pointer (some ⟨bn,0,none⟩),.pointer (some ⟨bd,0,none⟩),.pointer (some ⟨b,0,none⟩)] w (fun e w'=>e= .returned (aY (an6 (x,y) lo hi))∧Below w.heap.size w w'):=by
 have HV:=zh (fun W=>mO lo hi W);have HM:=zh (fun W=>iM (min (max x lo) hi) (min (max y lo) hi) W);have e:an6 (x,y) lo hi=if dY lo hi then dK (min (max x lo) hi) (min (max y lo) hi) else ((0,0),2):=rfl
 rw [e];generalize dK (min (max x lo) hi) (min (max y lo) hi)=m at *;generalize dY lo hi=v at *;obtain ⟨⟨m1,m2⟩,m3⟩:=m;have HX:=zh h;have HN:=zh hn;have HD:=zh hd;clear h0 e h hn hd;unfold aY at *;simp only at *;cases v
 ·obtain ⟨cn,ln,fn⟩:=HN.clf;obtain ⟨cd,ld,fd⟩:=HD.clf;go_enter Tryz.func159,Tryz.ntmps159
  go_wp2_with fail
  refine (HV.out _).mono ?_;rintro e w1 ⟨rfl,hb1⟩;have hx:=ah.later (ah.new w #[.int .i64 0,.int .i64 0] 40) hb1;have cr:=hx.cell;have fr:=hx.free;have lr:=hx.lt;have hw:=Bt (show Below w.heap.size w (w.alloc (.cells #[.int .i64 0,.int .i64 0] 40)) from aD) hb1;go_wp2_with fail
  refine aM rfl rfl aJ Tryz.underlying40 rfl zk ?_;exact ⟨rfl,aD⟩
 ·obtain ⟨cn,ln,fn⟩:=HN.clf;obtain ⟨cd,ld,fd⟩:=HD.clf;go_enter Tryz.func159,Tryz.ntmps159
  go_wp2_with fail
  refine (HV.out _).mono ?_;rintro e w1 ⟨rfl,hb1⟩;have hw:=Bt (show Below w.heap.size w (w.alloc (.cells #[.int .i64 0,.int .i64 0] 40)) from aD) hb1;have hx:=ah.later (ah.new w #[.int .i64 0,.int .i64 0] 40) hb1;clear cn ln fn cd ld fd;obtain ⟨cn,ln,fn⟩:=(HN.bl hw).clf;obtain ⟨cd,ld,fd⟩:=(HD.bl hw).clf;obtain ⟨cx,lx,fx⟩:=(HX.bl hw).clf;go_wp2_with fail
  refine (HM.out _).mono ?_;rintro e w2 ⟨rfl,hb2⟩;replace hx:=hx.later hb2;replace hw:=Bt hw hb2;have cr:=hx.cell;have fr:=hx.free;have lr:=hx.lt;clear cn ln fn cd ld fd cx lx fx hb1 hb2;go_wp2_with fail
  refine aM rfl rfl aJ Tryz.underlying40 rfl zk ?_;exact ⟨rfl,aD⟩
theorem Gn (x y n d:Int) (w:World):Calls Tryz.prog 130 #[.agg #[.int .i64 x,.int .i64 y],.int .i64 n,.int .i64 d] w (fun e w'=>e= .returned (aY (sV (x,y) n d))∧Below w.heap.size w w'):=by
 have H:Hid (∀ W bn bd b c,ah W bn #[.int .i64 n] 3→ah W bd #[.int .i64 d] 3→ah W b #[.int .i64 x,.int .i64 y] 40→ah W c #[.int .i64 x,.int .i64 y] 40→Calls Tryz.prog 97 #[.func (.func 203) #[] #[.pointer (some ⟨bn,0,none⟩),.pointer (some ⟨bd,0,none⟩),.pointer (some ⟨b,0,none⟩)],.slice (some ⟨c,0,none⟩) 1 1] W (fun e w'=>e= .returned (aY (sV (x,y) n d))∧Below W.heap.size W w')):=zh fun W bn bd b c h1 h2 h3 h4 =>
  kC 203 #[.pointer (some ⟨bn,0,none⟩),.pointer (some ⟨bd,0,none⟩),.pointer (some ⟨b,0,none⟩)] _ _ _ _ W (zK.one h4) (fun h W' hW'=>Xu x y n d h bn bd b W' (h1.later hW') (h2.later hW') (h3.later hW')) (fun args W=>by rfl)
 generalize sV (x,y) n d=z at *;obtain ⟨⟨z1,z2⟩,z3⟩:=z;unfold aY at *;simp only at *;go_enter Tryz.func130,Tryz.ntmps130
 go_wp2_with fail
 obtain ⟨wx,EW,hz,X,N,D,R,Z⟩:=aD0 w #[.int .i64 x,.int .i64 y] 40 #[.int .i64 n] 3 #[.int .i64 d] 3 #[.int .i64 0,.int .i64 0] 40 #[.int .i64 x,.int .i64 y] 40;rw [EW];clear EW;have HB:=zh hz;clear hz;refine (H.out _ _ _ _ _ N.out D.out X.out Z.out).mono ?_;rintro e w1 ⟨rfl,hb1⟩;replace R:=R.bl hb1;replace HB:=zh (Bt HB.out hb1);clear hb1 H;have hx:=R.out;have cx:=hx.cell;have fx:=hx.free;have lx:=hx.lt;have hw:=HB.out;go_wp2_with fail
 refine aM rfl rfl aJ Tryz.underlying40 rfl zk ?_;exact ⟨rfl,aD⟩
theorem OJ (x y n d:Int) (w:World):Calls Tryz.prog 73 #[.agg #[.int .i64 x,.int .i64 y],.int .i64 n,.int .i64 d] w (fun e w'=>e= .returned (aY (Rm (x,y) n d))∧Below w.heap.size w w'):=by
 have H:Hid (∀ W bn bd b c,ah W bn #[.int .i64 n] 3→ah W bd #[.int .i64 d] 3→ah W b #[.int .i64 x,.int .i64 y] 40→ah W c #[.int .i64 x,.int .i64 y] 40→Calls Tryz.prog 97 #[.func (.func 159) #[] #[.pointer (some ⟨bn,0,none⟩),.pointer (some ⟨bd,0,none⟩),.pointer (some ⟨b,0,none⟩)],.slice (some ⟨c,0,none⟩) 1 1] W (fun e w'=>e= .returned (aY (Rm (x,y) n d))∧Below W.heap.size W w')):=zh fun W bn bd b c h1 h2 h3 h4 =>
  kC 159 #[.pointer (some ⟨bn,0,none⟩),.pointer (some ⟨bd,0,none⟩),.pointer (some ⟨b,0,none⟩)] _ _ _ _ W (zK.one h4) (fun h W' hW'=>XW x y n d h bn bd b W' (h1.later hW') (h2.later hW') (h3.later hW')) (fun args W=>by rfl)
 generalize Rm (x,y) n d=z at *;obtain ⟨⟨z1,z2⟩,z3⟩:=z;unfold aY at *;simp only at *;go_enter Tryz.func73,Tryz.ntmps73
 go_wp2_with fail
 obtain ⟨wx,EW,hz,X,N,D,R,Z⟩:=aD0 w #[.int .i64 x,.int .i64 y] 40 #[.int .i64 n] 3 #[.int .i64 d] 3 #[.int .i64 0,.int .i64 0] 40 #[.int .i64 x,.int .i64 y] 40;rw [EW];clear EW;have HB:=zh hz;clear hz;refine (H.out _ _ _ _ _ N.out D.out X.out Z.out).mono ?_;rintro e w1 ⟨rfl,hb1⟩;replace R:=R.bl hb1;replace HB:=zh (Bt HB.out hb1);clear hb1 H;have hx:=R.out;have cx:=hx.cell;have fx:=hx.free;have lx:=hx.lt;have hw:=HB.out;go_wp2_with fail
 refine aM rfl rfl aJ Tryz.underlying40 rfl zk ?_;exact ⟨rfl,aD⟩
theorem ae1 (n:Int) (w:World):Calls Tryz.prog 131 #[.int .i64 n] w (fun e w'=>e= .returned (aY (ptE n))∧Below w.heap.size w w'):=by
 have H:Hid (∀ W,Calls Tryz.prog 183 #[.int .i64 n,.int .i64 n] W (fun e w'=>e= .returned (aY (ptE n))∧Below W.heap.size W w')):=zh fun W=>by
  have h:=nG n n W;unfold ptE aY
  revert h
  cases dY n n<;>exact fun h=>h
 generalize ptE n=z at *;obtain ⟨⟨z1,z2⟩,z3⟩:=z;unfold aY at *;simp only at *;go_enter Tryz.func131,Tryz.ntmps131
 go_wp2_with fail
 obtain ⟨wx,EW,hz,R⟩:=wO w #[.int .i64 0,.int .i64 0] 40;rw [EW];clear EW;have HB:=zh hz;clear hz;refine (H.out _).mono ?_;rintro e w1 ⟨rfl,hb1⟩;replace R:=R.bl hb1;replace HB:=zh (Bt HB.out hb1);clear hb1 H;have hx:=R.out;have cx:=hx.cell;have fx:=hx.free;have lx:=hx.lt;have hw:=HB.out;go_wp2_with fail
 refine aM rfl rfl aJ Tryz.underlying40 rfl zk ?_;exact ⟨rfl,aD⟩
end Go.Proofs.aW
namespace Go.Proofs.whole
open Go Go.RowKit Go.SW Go.Num Go.Mem Go.Proofs Go.Dec
theorem yD (z:Int) (hz:(Lib.decDigits z.natAbs).length≤600) (w:World) :
  Calls Tryz.prog 254 #[bL z] w (fun e w'=>∃ v,e= .returned (.tuple #[v,.bool true])∧Below w.heap.size w w'∧dB w' v z):=by
 have HC:=zh (sD ⟨(Lib.itoa z).toArray⟩);have e1:(⟨(Lib.itoa z).toArray⟩:ByteArray).data.toList=Lib.itoa z:=rfl;rw [e1,Oe] at HC;have hd:=kY z.natAbs;have hn:=mK z.natAbs;have hl:=uW z.natAbs;have hh:(Lib.decDigits z.natAbs).head? =some 48→z=0:=fun h=>Int.natAbs_eq_zero.1 (uX h);have hz1:z=0→(Lib.decDigits z.natAbs).length≤1:=fun h=>by rw [h];decide+kernel
 unfold bL;generalize (Lib.itoa z).toArray=txt at *;generalize Lib.decDigits z.natAbs=d at *;have hsz:(⟨d.toArray⟩:ByteArray).size=d.length:=rfl;have g0:((d.length:Int) == 0)=false:=beq_eq_false_iff_ne.2 zo;have g1:decide ((600:Int)<(d.length:Int))=false:=by simp;omega
 have g2:¬ d=[]:=fun h=>by rw [h] at hl;simp at hl
 have hbx:ah (w.alloc (.cells #[.slice none 0 0,.bool false] 257 (0,0))) w.heap.size #[.slice none 0 0,.bool false] 257:=ah.new _ _ _;have hbl:Below w.heap.size w (w.alloc (.cells #[.slice none 0 0,.bool false] 257 (0,0))):=(Below.refl _ _).alloc (Nat.le_refl _) _;have rE:=zh hbx;have HD:=zh hd;have HN:=zh hn;have HH:=zh hh;have HZ:=zh hz1;clear hbx hd hn hh hz1 e1;go_enter Tryz.func254,Tryz.ntmps254
 go_wp2_with (go_at_call 273;refine (HC.out _).mono ?_;rintro e w1 ⟨rfl,rfl⟩)
 go_loopw [23] (fun v wr=>∃ i:Nat,v= .int .i64 (i:Int)∧i≤d.length∧w.alloc (.cells #[.slice none 0 0,.bool false] 257 (0,0))=wr) (fun v _=>d.length - (intOf v).toNat)
 case atStart=>exact ⟨0,rfl,by omega,rfl⟩
 case round =>
  obtain ⟨i,rfl,hi,rfl⟩:=hrel
  rcases Nat.lt_or_ge i d.length with hlt|hge
  ·have hgt:(⟨d.toArray⟩:ByteArray)[i]'(by exact hlt)=d[i]:=rfl;have hdig:=HD.out d[i] (List.getElem_mem hlt);have q1:decide (((⟨d.toArray⟩:ByteArray)[i]'(by exact hlt)).toNat<(48:Int))=false:=by rw [hgt];simp;omega
   have q2:decide ((57:Int)<((⟨d.toArray⟩:ByteArray)[i]'(by exact hlt)).toNat)=false:=by rw [hgt];simp;omega
   clear hgt hdig;go_wp2_with fail
   exact ⟨⟨i+1,rfl,by omega,trivial⟩,by simp only [intOf];omega⟩
  ·obtain rfl:i=d.length:=by omega
   have hgt:(⟨d.toArray⟩:ByteArray)[0]'(by exact hl)=d[0]:=rfl;have HG:=zh (vT ⟨d.toArray⟩ (by rw [hsz];omega) HD.out (w.alloc (.cells #[.slice none 0 0,.bool false] 257 (0,0))));have e2:num (⟨d.toArray⟩:ByteArray).data.toList=z.natAbs:=HN.out;rw [e2] at HG;have hx:d[0].toNat=48→z=0:=fun h=>HH.out (by rw [List.head?_eq_getElem?, List.getElem?_eq_getElem hl];exact congrArg some (UInt8.toNat_inj.mp h));cases hq:decide (d[0].toNat=48) with
   | true =>
    have h0:=hx (of_decide_eq_true hq);have h1:=HZ.out h0;have q1:decide ((1:Int)<(d.length:Int))=false:=by simp;omega
    have q2:decide (z<0)=false:=by simp;omega
    have q0:((((⟨d.toArray⟩:ByteArray)[0]'(by exact hl)).toNat:Int) == 48)=true:=by rw [hgt];simp at hq ⊢;omega
    clear hgt hx hq e2 hge hi h0;go_wp2_with (go_at_call 292;refine (HG.out).mono ?_;rintro e w2 ⟨v,rfl,hb2,hv⟩;have HV:=zh hv;obtain ⟨pa,ca,rfl, -⟩:=hv;have yQ:=rE.out.later hb2;have cb:=yQ.cell;have fb:=yQ.free)
    refine aM rfl rfl (((rE.out.later hb2).set 0 _).set 1 _) Tryz.underlying257 rfl zk ?_;refine ⟨_,rfl,((Bt hbl hb2).setCell (Nat.le_refl _) _).setCell (Nat.le_refl _) _,pa,_,ca,?_,(HV.out.setOther yQ zd 0 _).setOther (yQ.set 0 _) zd 1 _⟩;rw [q2];rfl
   | false =>
    have q0:((((⟨d.toArray⟩:ByteArray)[0]'(by exact hl)).toNat:Int) == 48)=false:=by rw [hgt];simp at hq ⊢;omega
    clear hgt hx hq e2 hge hi;go_wp2_with (go_at_call 292;refine (HG.out).mono ?_;rintro e w2 ⟨v,rfl,hb2,hv⟩;have HV:=zh hv;obtain ⟨pa,ca,rfl, -⟩:=hv;have yQ:=rE.out.later hb2;have cb:=yQ.cell;have fb:=yQ.free)
    refine aM rfl rfl (((rE.out.later hb2).set 0 _).set 1 _) Tryz.underlying257 rfl zk ?_;exact ⟨_,rfl,((Bt hbl hb2).setCell (Nat.le_refl _) _).setCell (Nat.le_refl _) _,pa,_,ca,rfl,(HV.out.setOther yQ zd 0 _).setOther (yQ.set 0 _) zd 1 _⟩
end Go.Proofs.whole
namespace Go.Proofs.whole
open Go Go.RowKit Go.SW Go.Num Go.Mem Go.Proofs
theorem gF (v:Value) (n:Nat) (w:World) (h:aQ w v n) :
  Calls Tryz.prog 295 #[v] w fun e w'=>e= .returned (.bool (decide (n=0)))∧w=w':=zs4
def xq (a b:Nat):Int:=if a<b then -1 else if b<a then 1 else 0
theorem qw {a b:Nat} (h:a<b):xq a b= -1:=if_pos h
theorem oJ {a b:Nat} (h:b<a):xq a b=1:=by unfold xq;rw [if_neg zo,if_pos h]
theorem rO (a:Nat):xq a a=0:=by unfold xq;simp
theorem UA (a b:Nat) (w:World):Calls Tryz.prog 275 #[.int .i64 a,.int .i64 b] w fun e w'=>e= .returned (.int .i64 (xq a b))∧w=w':=zs5
theorem Uz (a b:Nat) (w:World):Calls Tryz.prog 276 #[.int .u32 a,.int .u32 b] w fun e w'=>e= .returned (.int .i64 (xq a b))∧w=w':=zs6
theorem Bn (a b:Option Addr) (m n c d:Nat) (w:World) (h:m≠n) :
  Calls Tryz.prog 317 #[.slice a m c,.slice b n d] w fun e w'=>e= .returned (.int .i64 (xq m n))∧w=w':=zs7
theorem yZ (pa pb:Option Addr) (ca cb:Nat) (l m:List Nat) (w:World) (hlen:l.length=m.length) (hm:l.length≤9223372036854775807) (hl:dS 1000000000 l) (hmd:dS 1000000000 m)
   (hc:∀ k,k<l.length→∃ b off,pa=some ⟨b,off,none⟩∧b<w.heap.size∧w.cell? ⟨b,off+k,none⟩=some (.int .u32 (l.getD k 0:Nat)))
   (hd:∀ k,k<m.length→∃ b off,pb=some ⟨b,off,none⟩∧b<w.heap.size∧w.cell? ⟨b,off+k,none⟩=some (.int .u32 (m.getD k 0:Nat))) :
    Calls Tryz.prog 317 #[.slice pa l.length ca,.slice pb m.length cb] w fun e w'=>e= .returned (.int .i64 (xq (val 1000000000 l) (val 1000000000 m)))∧Below w.heap.size w w':=zs8
theorem iO (x y:Value) (a b:Nat) (w:World) (hx:aQ w x a) (hy:aQ w y b) :
  Calls Tryz.prog 317 #[x,y] w fun e w'=>e= .returned (.int .i64 (xq a b))∧Below w.heap.size w w':=zs9
theorem Bb:(Tryz.prog.info? 61).map (fun i=>(i.zero,i.size,i.bytes))=some (some (.int .u32 0),1,4):=by kernel_rfl
theorem Aa {B:Nat} {l m s:List Nat} {k c d c':Nat} (hk:k<l.length) (hs:s.length=k) (he:val B s+c*B^k=val B (l.take k)+val B (m.take k)) (h:d+c'*B=l.getD k 0+c+m.getD k 0) :
  val B (s++[d])+c'*B^(k+1)=val B (l.take (k+1))+val B (m.take (k+1)):=aG4
theorem zZ (pl ps:Option Addr) (cl cs:Nat) (l m:List Nat) (v0 v1:Value) (w:World) (hl:dS 1000000000 l) (hmd:dS 1000000000 m) (hb1:l.length≤1099511627776) (hml:m.length≤l.length)
   (hv:(v0= .slice pl l.length cl∧v1= .slice ps m.length cs)∨(v1= .slice pl l.length cl∧v0= .slice ps m.length cs∧m.length<l.length))
   (hc:∀ k,k<l.length→∃ b off,pl=some ⟨b,off,none⟩∧b<w.heap.size∧w.cell? ⟨b,off+k,none⟩=some (.int .u32 (l.getD k 0:Nat)))
   (hd:∀ k,k<m.length→∃ b off,ps=some ⟨b,off,none⟩∧b<w.heap.size∧w.cell? ⟨b,off+k,none⟩=some (.int .u32 (m.getD k 0:Nat))) :
    Calls Tryz.prog 315 #[v0,v1] w fun e w'=>∃ s v,e= .returned v∧Below w.heap.size w w'∧lK w' v s∧dS 1000000000 s∧val 1000000000 s=val 1000000000 l+val 1000000000 m∧l.length≤s.length∧(l.length<s.length→Top s):=aG3
theorem Ca (x y:Value) (a b:Nat) (w:World) (hx:aQ w x a) (hy:aQ w y b) (ha:sz 1000000000 a≤1099511627776) (hb:sz 1000000000 b≤1099511627776) :
  Calls Tryz.prog 315 #[x,y] w fun e w'=>∃ v,e= .returned v∧Below w.heap.size w w'∧aQ w' v (a+b):=zs12
theorem Dq (pl ps:Option Addr) (cl cs:Nat) (l m:List Nat) (w:World) (hl:dS 1000000000 l) (hmd:dS 1000000000 m) (hb1:l.length≤1099511627776) (hml:m.length≤l.length) (hle:val 1000000000 m≤val 1000000000 l)
   (hc:∀ k,k<l.length→∃ b off,pl=some ⟨b,off,none⟩∧b<w.heap.size∧w.cell? ⟨b,off+k,none⟩=some (.int .u32 (l.getD k 0:Nat)))
   (hd:∀ k,k<m.length→∃ b off,ps=some ⟨b,off,none⟩∧b<w.heap.size∧w.cell? ⟨b,off+k,none⟩=some (.int .u32 (m.getD k 0:Nat))) :
    Calls Tryz.prog 326 #[.slice pl l.length cl,.slice ps m.length cs] w fun e w'=>∃ v,e= .returned v∧Below w.heap.size w w'∧aQ w' v (val 1000000000 l - val 1000000000 m):=aG2
theorem Dt (x y:Value) (a b:Nat) (w:World) (hx:aQ w x a) (hy:aQ w y b) (ha:sz 1000000000 a≤1099511627776) (hle:b≤a) :
  Calls Tryz.prog 326 #[x,y] w fun e w'=>∃ v,e= .returned v∧Below w.heap.size w w'∧aQ w' v (a - b):=aG1
theorem Tz {x y:Nat} (hx:x<1000000000) (hy:y<1000000000):(0:Int)≤(x:Int)*(y:Int)∧(x:Int)*(y:Int)≤999999998000000001:=by
 have h:x*y≤999999999*999999999:=Nat.mul_le_mul zo zo;rw [← Int.natCast_mul];omega
theorem CQ (pl ps:Option Addr) (cl cs:Nat) (l m:List Nat) (w:World) (hl:dS 1000000000 l) (hmd:dS 1000000000 m) (hb1:l.length≤1099511627776) (hb2:m.length≤1099511627776)
   (hc:∀ k,k<l.length→∃ b off,pl=some ⟨b,off,none⟩∧b<w.heap.size∧w.cell? ⟨b,off+k,none⟩=some (.int .u32 (l.getD k 0:Nat)))
   (hd:∀ k,k<m.length→∃ b off,ps=some ⟨b,off,none⟩∧b<w.heap.size∧w.cell? ⟨b,off+k,none⟩=some (.int .u32 (m.getD k 0:Nat))) :
    Calls Tryz.prog 296 #[.slice pl l.length cl,.slice ps m.length cs] w fun e w'=>∃ v,e= .returned v∧Below w.heap.size w w'∧aQ w' v (val 1000000000 l*val 1000000000 m):=aG0
theorem iU (x y:Value) (a b:Nat) (w:World) (hx:aQ w x a) (hy:aQ w y b) (ha:sz 1000000000 a≤1099511627776) (hb:sz 1000000000 b≤1099511627776) :
  Calls Tryz.prog 296 #[x,y] w fun e w'=>∃ v,e= .returned v∧Below w.heap.size w w'∧aQ w' v (a*b):=aF9
theorem xg (pl:Option Addr) (cl:Nat) (l:List Nat) (d:Nat) (w:World) (hl:dS 1000000000 l) (hb1:l.length≤1099511627776) (hd0:0<d) (hd1:d≤1000000000)
   (hc:∀ k,k<l.length→∃ b off,pl=some ⟨b,off,none⟩∧b<w.heap.size∧w.cell? ⟨b,off+k,none⟩=some (.int .u32 (l.getD k 0:Nat))) :
    Calls Tryz.prog 316 #[.slice pl l.length cl,.int .u32 d] w fun e w'=>∃ v,e= .returned (.tuple #[v,.int .u32 (val 1000000000 l%d:Nat)])∧Below w.heap.size w w'∧aQ w' v (val 1000000000 l / d):=aF8
theorem yu (x:Value) (a d:Nat) (w:World) (hx:aQ w x a) (ha:sz 1000000000 a≤1099511627776) (hd0:0<d) (hd1:d≤1000000000) :
  Calls Tryz.prog 316 #[x,.int .u32 d] w fun e w'=>∃ v,e= .returned (.tuple #[v,.int .u32 (a%d:Nat)])∧Below w.heap.size w w'∧aQ w' v (a / d):=by
 obtain ⟨pa,ca,rfl,h1,h2,h3⟩:=lK.read hx.Ci;have:=xg pa ca _ d w (aT zo a) ha hd0 hd1 h3
 rwa [aP zo] at this
theorem wZ (pl:Option Addr) (cl:Nat) (l:List Nat) (w:World) (hm:l.length≤9223372036854775807) (hv:val 1000000000 l≤18446744073709551615)
   (hc:∀ k,k<l.length→∃ b off,pl=some ⟨b,off,none⟩∧b<w.heap.size∧w.cell? ⟨b,off+k,none⟩=some (.int .u32 (l.getD k 0:Nat))) :
    Calls Tryz.prog 346 #[.slice pl l.length cl] w fun e w'=>e= .returned (.int .u64 (val 1000000000 l:Nat))∧w=w':=aF7
theorem CX (x:Value) (a:Nat) (w:World) (hx:aQ w x a) (ha:a≤18446744073709551615) :
  Calls Tryz.prog 346 #[x] w fun e w'=>e= .returned (.int .u64 (a:Nat))∧w=w':=by
 obtain ⟨pa,ca,rfl,h1,h2,h3⟩:=lK.read hx.Ci;have:=wZ pa ca _ w zo (by rw [aP zo];exact ha) h3
 rwa [aP zo] at this
theorem kW (a:Nat) (w:World) (ha:a≤18446744073709551615) :
  Calls Tryz.prog 314 #[.int .u64 a] w fun e w'=>∃ v,e= .returned v∧Below w.heap.size w w'∧aQ w' v a:=aF6
def zD (w:World) (g k:Nat) (pre u post v:List Nat) (e:Ending) (w':World):Prop :=
 e= .returned (.int .u32 (val 1000000000 u / val 1000000000 v:Nat))∧w.grownBy w' (some g) ∧
   ∃ s,ah w' g (bZ (pre++(s++[0])++post)).toArray 61∧s.length=k+2∧dS 1000000000 s∧val 1000000000 s=val 1000000000 u%val 1000000000 v
theorem AQ (g j k cu:Nat) (pv:Option Addr) (cv:Nat) (pre u post v:List Nat) (w:World) (hj:pre.length=j) (hu:u.length=k+3) (hv:v.length=k+2) (du:dS 1000000000 u) (dv:dS 1000000000 v) (hk:k≤1099511627776)
  (ht:1000000000≤2*v.getD (k+1) 0) (hlt:val 1000000000 u<val 1000000000 v*1000000000) (az2:ah w g (bZ (pre++u++post)).toArray 61)
  (hd:∀ i,i<k+2→∃ b off,pv=some ⟨b,off,none⟩∧b≠g∧b<w.heap.size∧w.cell? ⟨b,off+i,none⟩=some (.int .u32 (v.getD i 0:Nat))) :
  Calls Tryz.prog 333 #[.slice (some ⟨g,j,none⟩) (k+3) cu,.slice pv (k+2) cv] w (zD w g k pre u post v):=aF5
def mM (w:World) (q r:Nat) (e:Ending) (w':World):Prop:=∃ vq vr,e= .returned (.tuple #[vq,vr])∧Below w.heap.size w w'∧aQ w' vq q∧aQ w' vr r
theorem Bj (x y:Value) (a b:Nat) (w:World) (hx:aQ w x a) (hy:aQ w y b) (h:a<b) :
  Calls Tryz.prog 313 #[x,y] w (mM w (a / b) (a%b)):=aF4
theorem yV (pa pb:Option Addr) (ca cb:Nat) (a b:Nat) (w:World) (hx:aQ w (.slice pa (sz 1000000000 a) ca) a) (hy:aQ w (.slice pb 1 cb) b) (hb0:0<b) (hb1:b<1000000000) (h:b≤a) (ha:sz 1000000000 a≤549755813888) :
  Calls Tryz.prog 313 #[.slice pa (sz 1000000000 a) ca,.slice pb 1 cb] w (mM w (a / b) (a%b)):=aF3
theorem Bh (pa pb:Option Addr) (ca cb:Nat) (a b k:Nat) (w:World) (hx:aQ w (.slice pa (sz 1000000000 a) ca) a) (hy:aQ w (.slice pb (k+2) cb) b) (hsb:sz 1000000000 b=k+2) (h:b≤a) (ha:sz 1000000000 a≤549755813888) :
  Calls Tryz.prog 313 #[.slice pa (sz 1000000000 a) ca,.slice pb (k+2) cb] w (mM w (a / b) (a%b)):=aF2
theorem fK (x y:Value) (a b:Nat) (w:World) (hx:aQ w x a) (hy:aQ w y b) (hb:0<b) (ha:sz 1000000000 a≤549755813888) :
  Calls Tryz.prog 313 #[x,y] w (mM w (a / b) (a%b)):=aF1
end Go.Proofs.whole
namespace Go.Proofs.whole
open Go Go.RowKit Go.SW Go.Num Go.Mem Go.Proofs Go.Proofs.iR Go.Dec
theorem PY (B b d wd:Nat) (l:List UInt8) (w:World) (h:XD B b (Lib.byteCells l) w) (hB:B≤w.heap.size) (hw:wd≤9) (hd:d<1000000000) (hl:l.length≤140737488355000) (ht:Pow w) :
  Calls Tryz.prog 328 #[.int .u32 d,.int .i64 wd,.pointer (some ⟨b,0,none⟩)] w fun e w'=>e= .returned (.tuple #[])∧XD B b (Lib.byteCells (l++(List.replicate (wd - (Lib.decDigits d).length) 48++Lib.decDigits d))) w'∧Below B w w':=aF0
def Gm (w:World) (n:Nat) (e:Ending) (w':World):Prop:=e= .returned (.string ⟨(Lib.decDigits n).toArray⟩)∧Below w.heap.size w w'
theorem qZ (x:Value) (a:Nat) (w:World) (hx:aQ w x a) (ha:sz 1000000000 a≤1099511627776) (ht:Pow w) :
  Calls Tryz.prog 294 #[x] w (Gm w a):=aE9
theorem kH (x:Value) (a:Nat) (w:World) (hx:aQ w x a) (ha:sz 1000000000 a≤1099511627776) (ht:Pow w) :
  Calls Tryz.prog 293 #[x] w (fun e w'=>e= .returned (.int .i64 ((Lib.decDigits a).length:Nat))∧Below w.heap.size w w'):=aE8
end Go.Proofs.whole
namespace Go.Proofs.whole
open Go Go.RowKit Go.SW Go.Num Go.Mem Go.Proofs
theorem aQ.inj {w:World} {v:Value} {m n:Nat} (h:aQ w v m) (k:aQ w v n):m=n:=aE7
open Classical in
noncomputable def Dv (w:World) (v:Value):Nat:=if h:∃ n,aQ w v n then h.choose else 0
theorem uK {w:World} {v:Value} {n:Nat} (h:aQ w v n):Dv w v=n:=by
 unfold Dv;rw [dif_pos ⟨n,h⟩];exact aQ.inj (Exists.choose_spec (⟨n,h⟩:∃ n,aQ w v n)) h
theorem uQ (x y:Value) (a b:Nat) (w:World) (hx:aQ w x a) (hy:aQ w y b) (ha:sz 1000000000 a≤549755813888) (hb:sz 1000000000 b≤549755813888) :
  Calls Tryz.prog 332 #[x,y] w (fun e w'=>∃ v,e= .returned v∧Below w.heap.size w w'∧aQ w' v (Nat.gcd a b)):=aE6
end Go.Proofs.whole
namespace Go.Proofs.whole
open Go Go.RowKit Go.SW Go.Num Go.Mem Go.Proofs Go.Dec
theorem dJ (m:Value) (n:Nat) (b:Bool) (w:World) (h:aQ w m n) :
  Calls Tryz.prog 256 #[m,.bool b] w (fun e w'=>∃ v,e= .returned v∧Below w.heap.size w w'∧dB w' v (gT n b)):=aE5
theorem uI (v:Value) (z:Int) (w:World) (h:dB w v z) :
  Calls Tryz.prog 331 #[v] w (fun e w'=>∃ v,e= .returned v∧Below w.heap.size w w'∧dB w' v (-z)):=aE4
theorem LX (pa pb:Option Addr) (l m ca cb:Nat) (z y:Int) (b:Bool) (w:World) (h:aQ w (.slice pa l ca) z.natAbs) (h2:aQ w (.slice pb m cb) y.natAbs) (hz:decide (z<0)=b) (hy:decide (y<0)=b) (kz:sz 1000000000 z.natAbs≤549755813888) (ky:sz 1000000000 y.natAbs≤549755813888) :
  Calls Tryz.prog 308 #[.agg #[.slice pa l ca,.bool b],.agg #[.slice pb m cb,.bool b]] w (fun e w'=>∃ v,e= .returned v∧Below w.heap.size w w'∧dB w' v (z+y)):=aE3
theorem LY (pa pb:Option Addr) (l m ca cb:Nat) (z y:Int) (b:Bool) (w:World) (h:aQ w (.slice pa l ca) z.natAbs) (h2:aQ w (.slice pb m cb) y.natAbs) (hz:decide (z<0)=b) (hy:decide (y<0)= !b) (kz:sz 1000000000 z.natAbs≤549755813888) (ky:sz 1000000000 y.natAbs≤549755813888) :
  Calls Tryz.prog 308 #[.agg #[.slice pa l ca,.bool b],.agg #[.slice pb m cb,.bool !b]] w (fun e w'=>∃ v,e= .returned v∧Below w.heap.size w w'∧dB w' v (z+y)):=aE2
theorem wW (v u:Value) (z y:Int) (w:World) (h:dB w v z) (h2:dB w u y) (kz:sz 1000000000 z.natAbs≤549755813888) (ky:sz 1000000000 y.natAbs≤549755813888) :
  Calls Tryz.prog 308 #[v,u] w (fun e w'=>∃ v,e= .returned v∧Below w.heap.size w w'∧dB w' v (z+y)):=aE1
end Go.Proofs.whole
namespace Go.Proofs.whole
open Go Go.RowKit Go.SW Go.Num Go.Mem Go.Proofs
theorem MH (x:Value) (a k:Nat) (w:World) (hx:aQ w x a) (hk:k≤9223372036854775807) (hb:∀ i,i≤k→sz 1000000000 (a^i)≤1099511627776) (ha:sz 1000000000 a≤1099511627776) :
  Calls Tryz.prog 257 #[x,.int .i64 (k:Int)] w (fun e w'=>∃ v,e= .returned v∧Below w.heap.size w w'∧aQ w' v (a^k)):=by
 have hmf:∀ (fn:Fn) (first cap:Array Value) (w:World),(Instr.makeFunc fn first cap).run Tryz.prog w= .ok (.func fn first cap) w:=fun _ _ _ _=>rfl;obtain ⟨pa,l,ca,rfl⟩:=hx.slice;have HX:=zh hx;have HBD:=zh hb;have HA:=zh ha;clear hx hb ha;go_enter Tryz.func257,Tryz.ntmps257
 go_wp2_with fail
 have hb1:Below w.heap.size w (w.alloc (.cells #[.int .u32 1] 61)):=aD;have h1:Hid (aQ (w.alloc (.cells #[.int .u32 1] 61)) (.slice (some ⟨w.heap.size,0,none⟩) 1 1) 1):=zh (by have:=aQ.lit (w:=w) (d:=1) zo zo;simpa using this);obtain ⟨w1,EW⟩:∃ y,w.alloc (.cells #[.int .u32 1] 61)=y:=⟨_,rfl⟩;rw [EW] at hb1 h1 ⊢;have HB1:=zh hb1;clear EW hb1
 go_loopw [5,11] (fun pv iv wr=>∃ i:Nat,iv= .int .i64 (i:Int)∧i≤k∧Hid (aQ wr pv (a^i))∧Below w1.heap.size w1 wr) (fun _ iv _=>k - (intOf iv).toNat)
 case atStart=>exact ⟨0,rfl,by omega,zh (by rw [Nat.pow_zero];exact h1.out),Below.refl _ _⟩
 case round =>
  obtain ⟨i,rfl,hi,HP,hb⟩:=hrel;obtain ⟨pp,lp,cp,rfl⟩:=HP.out.slice
  rcases Nat.lt_or_ge i k with hlt|hge
  ·have HT:=zh (iU _ _ a (a^i) wr (HX.out.later (Bt HB1.out hb)) HP.out HA.out (HBD.out i hi));go_wp2_with fail
   refine HT.out.mono ?_;rintro e w2 ⟨v,rfl,hb2,hv⟩;obtain ⟨pq,lq,cq,rfl⟩:=hv.slice;have mg:Hid (aQ w2 (.slice pq lq cq) (a^(i+1))):=zh (by rw [Nat.pow_succ,Nat.mul_comm];exact hv);have hz:=Bt hb hb2;clear hv hb2 HT HP;go_wp2_with fail
   go_roundw
   case rel=>exact ⟨i+1,by go_num,by omega,mg,hz⟩
   case measure=>exact zM
  ·obtain rfl:i=k:=by omega
   go_wp2_with fail
   go_ret
   exact ⟨_,rfl,Bt HB1.out hb,HP.out⟩
theorem Yn (k d:Nat):(List.replicate (k+1) 0).set k d=List.replicate k 0++[d]:=by
 rw [List.replicate_succ'];rw [List.set_append_right _ _ zi];simp
theorem ag6 {w:World} {v:Value} {k d:Nat} (h:lK w v ((List.replicate (k+1) 0).set k d)) (h0:0<d) (h1:d<1000000000):aQ w v (1000000000^k*d):=by
 rw [Yn] at h
 have:=aQ.Qm h (fun x hx=>by
  rcases List.mem_append.1 hx with hx|hx
  ·rw [List.eq_of_mem_replicate hx];omega
  ·simp at hx;omega) (fun j hj=>by
  have e:j=k:=by simpa using hj.symm
  subst e;rw [List.getD_eq_getElem?_getD,List.getElem?_append_right zi];simp
  omega)
 rwa [gU,vG,List.length_replicate,Nat.zero_add] at this
theorem rH (n:Nat) (hn:n≤100000) (w:World) :
  Calls Tryz.prog 312 #[.int .i64 (n:Int)] w (fun e w'=>∃ v,e= .returned v∧Below w.heap.size w w'∧aQ w' v (10^n)):=by
 obtain ⟨i0,hi,hz0,hz1,hz2⟩:=info_parts Bb;have W0:∀ z:Int,0≤z∧z≤1000000000→IntKind.i64.wrap z=z:=fun z h=>by unfold IntKind.wrap;simp [IntKind.bits,IntKind.signed];omega
 obtain ⟨k,hk⟩:∃ k,n / 9=k:=⟨_,rfl⟩;obtain ⟨r,hr⟩:∃ r,n%9=r:=⟨_,rfl⟩
 have e10:10^n=1000000000^k*10^r:=by
  rw [show (1000000000:Nat)=10^9 by decide,← Nat.pow_mul,← Nat.pow_add]
  congr 1
  omega
 rw [e10];have t1:(n:Int).tdiv 9=(k:Int):=by rw [Int.tdiv_eq_ediv_of_nonneg zo];omega
 have t2:(n:Int).tmod 9=(r:Int):=by rw [Int.tmod_eq_emod_of_nonneg zo];omega
 have u1:=W0 (k:Int) zo;have u2:=W0 ((k:Int)+1) zo;have u3:=W0 (r:Int) zo;have hr8:r≤8:=by omega
 have hk9:k≤100000:=by omega
 have HT:Hid (∀ i,i≤r→0<10^i∧10^i≤100000000):=zh fun i hi=>⟨Nat.pow_pos zo,Nat.le_trans (Nat.pow_le_pow_right zo (show i≤8 by omega)) zd⟩;clear e10 hk hr W0;go_enter Tryz.func312,Tryz.ntmps312
 go_wp2_with (at_make;refine wpList_make_full _ rfl _ _ 255 rfl w.heap.size 61 i0 (.int .u32 0) 1 Tryz.underlying255 hi hz0 hz1 _ _ _ _ (k+1) rfl rfl zo zo (by rw [hz2];omega) (by unfold maxLen;omega) (Nat.le_refl _) ?_)
 intro w0 hown0 jA;rw [qW] at hown0;have hb0:Below w.heap.size w w0:=(Below.refl _ _).grown jA (Nat.le_refl _) (fun k h=>by cases h);have HO:=zh hown0;have HB:=zh hb0;clear hown0 jA hb0;go_wp2_with fail
 go_loopw [4,11] (fun tv iv wr=>∃ i:Nat,iv= .int .i64 (i:Int)∧i≤r∧tv= .int .u32 ((10^i:Nat):Int)∧wr=w0) (fun _ iv _=>r - (intOf iv).toNat)
 case atStart=>exact ⟨0,rfl,by omega,rfl,rfl⟩
 case round =>
  obtain ⟨i,rfl,hi,rfl,rfl⟩:=hrel;obtain ⟨h1,h2⟩:=HT.out i hi
  rcases Nat.lt_or_ge i r with hlt|hge
  ·have h3:=(HT.out (i+1) zo).2;obtain ⟨b,hB⟩:∃ b,Hid (10^(i+1)=b):=⟨_,zh rfl⟩;rw [hB.out] at h3;have e:((10^i:Nat):Int)*10=(b:Int):=by rw [← hB.out,Nat.pow_succ];omega
   have he:IntKind.u32.wrap (((10^i:Nat):Int)*10)=(b:Int):=by rw [e];unfold IntKind.wrap;simp [IntKind.bits,IntKind.signed];omega
   clear e h3 h1 h2;generalize 10^i=a at *;go_wp2_with fail
   go_roundw
   case rel=>exact ⟨i+1,by go_num,by omega,by rw [hB.out],trivial⟩
   case measure=>exact zM
  ·obtain rfl:i=r:=by omega
   obtain ⟨d,hD⟩:∃ d,Hid (10^i=d):=⟨_,zh rfl⟩;rw [hD.out] at h1 h2 ⊢;have q1:wr.cell? ⟨w.heap.size,k,none⟩=some (.int .u32 0):=by rw [HO.out.cellAt k zo,mP zi];simp
   have q2:wr.frozen? ⟨w.heap.size,k,none⟩=false:=HO.out.frozenAt k
   have HS:Hid (aQ (wr.setCell ⟨w.heap.size,k,none⟩ (.int .u32 (d:Int))) (.slice (some ⟨w.heap.size,0,none⟩) (k+1) (k+1)) (1000000000^k*d)):=zh (by
    have h3:=(HO.out.stored k (.int .u32 (d:Int))).1;rw [jP] at h3;exact ag6 (lK.fI h3) h1 zo)
   have hb:Below w.heap.size w (wr.setCell ⟨w.heap.size,k,none⟩ (.int .u32 (d:Int))):=HB.out.setCell (Nat.le_refl _) _;go_wp2_with fail
   go_ret
   exact ⟨_,rfl,hb,by rw [hD.out];exact HS.out⟩
end Go.Proofs.whole
namespace Go.Proofs.whole
open Go Go.RowKit Go.SW Go.Num Go.Mem Go.Proofs Go.Dec
theorem zN {y s:Nat} (hy:sz 1000000000 y≤s):∀ i,sz 1000000000 (y^i)≤s*i+1
 | 0=>aR zo _ _ (by rw [Nat.mul_zero,Nat.pow_zero];decide)
 | i+1=>by
  rw [Nat.pow_succ];have h:=jL (B:=1000000000) zo (y^i) y;have:=zN hy i;rw [Nat.mul_succ];omega
theorem au6 {l:Nat}:sz 1000000000 (10^l)≤l+1:=by
 refine aR zo _ _ ?_;have h1:10^l≤1000000000^l:=Nat.pow_le_pow_left zo l;have h2:1000000000^l<1000000000^(l+1):=Nat.pow_lt_pow_right zo zo;omega
theorem yB (x:Value) (a k:Nat) (w:World) (hx:aQ w x a) (hk:1≤k) (k12:k≤12) (hl:(Lib.decDigits a).length≤10000) (ha:sz 1000000000 a≤10000) (ht:iR.Pow w) :
  Calls Tryz.prog 278 #[x,.int .i64 (k:Int)] w (fun e w'=>∃ v,e= .returned v∧Below w.heap.size w w'∧aQ w' v (dQ k a)):=by
 obtain ⟨pa,la,ca,rfl⟩:=hx.slice
 rcases Nat.eq_zero_or_pos a with rfl|ha0
 ·have hr:dQ k 0=0:=Nat.le_antisymm (Nl hk (by rw [Nat.zero_add,Nat.one_pow];omega)) (Nat.zero_le _);rw [hr];have HX:=zh hx;clear hx hl ha ht hr;go_enter Tryz.func278,Tryz.ntmps278
  go_wp2_with fail
  refine (gF _ 0 _ HX.out).mono ?_;rintro e w1 ⟨rfl,rfl⟩;go_wp2_with fail
  go_ret
  exact ⟨_,rfl,Below.refl _ _,aQ.zero _⟩
 ·have W0:∀ z:Int,0≤z∧z≤1000000000→IntKind.i64.wrap z=z:=fun z h=>by unfold IntKind.wrap;simp [IntKind.bits,IntKind.signed];omega
  have d0:decide (a=0)=false:=by simp;omega
  have hs:=Qn (k:=k) (m:=a) hk (Fy a);obtain ⟨l,El⟩:∃ l,Hid ((Lib.decDigits a).length=l):=⟨_,zh rfl⟩;have HLEN:=zh (fun W (hW:Below w.heap.size w W)=>kH _ a W (hx.later hW) (Nat.le_trans ha zo) (ht.later hW));rw [El.out] at hs hl HLEN;obtain ⟨j,Ej⟩:∃ j,l / k=j:=⟨_,rfl⟩;have hjl:j≤l:=by rw [← Ej];exact Nat.div_le_self _ _
  have t1:(l:Int).tdiv (k:Int)=(j:Int):=by rw [Int.tdiv_eq_ediv_of_nonneg zo,← Ej];rfl
  rw [Ej] at hs;have kz:¬ k=0:=by omega
  have kz2:(k:Int)≠0:=by omega
  have kz3:((k:Int) == 0)=false:=by simp;omega
  have u1:=W0 (j:Int) zo;have u2:=W0 ((j:Int)+1) zo;obtain ⟨m,hm⟩:∃ m,Hid (k=m+1):=⟨k - 1,zh zo⟩;have e1:(k:Int) - 1=(m:Int):=by have:=hm.out;omega
  have bj0:m≤11:=by have:=hm.out;omega
  have u3:=W0 (m:Int) zo;have u4:IntKind.u64.wrap (m:Int)=(m:Int):=by unfold IntKind.wrap;simp [IntKind.bits,IntKind.signed];omega
  have u5:IntKind.u32.wrap (k:Int)=(k:Int):=by unfold IntKind.wrap;simp [IntKind.bits,IntKind.signed];omega
  have ba0:=zh (fun W=>rH (j+1) zo W);have HX:=zh hx;have HA:=zh ha;have HS:=zh hs;have HA0:=zh ha0;have HRP:Hid (1≤dQ k a):=zh (yI hk (by rw [Nat.one_pow];exact ha0));clear hx ha hs ht W0 Ej;go_enter Tryz.func278,Tryz.ntmps278
  go_wp2_with fail
  refine (gF _ a _ HX.out).mono ?_;rintro e w1 ⟨rfl,rfl⟩;rw [d0];go_wp2_with fail
  refine (HLEN.out _ (Below.refl _ _)).mono ?_;rintro e w2 ⟨rfl,hb2⟩;go_wp2_with fail
  refine (ba0.out _).mono ?_;rintro e w3 ⟨v,rfl,hb3,hv⟩;obtain ⟨pv,lv,cv,rfl⟩:=hv.slice;have HV:=zh hv;have HB:=zh (Bt hb2 hb3);clear hv hb2 hb3;go_wp2_with fail
  go_loopw [5] (fun xv wr=>∃ y:Nat,Hid (aQ wr xv y)∧Hid (dQ k a≤y∧y≤10^(j+1))∧Below w.heap.size w wr) (fun xv wr=>Dv wr xv)
  case atStart=>exact ⟨_,HV,zh ⟨HS.out,Nat.le_refl _⟩,HB.out⟩
  case round =>
   obtain ⟨y,HY,HR,hb⟩:=hrel;obtain ⟨py,ly,cy,rfl⟩:=HY.out.slice;have hy0:0<y:=by have:=HR.out.1;have:=HRP.out;omega
   have hys:sz 1000000000 y≤10002:=Nat.le_trans (dh zo HR.out.2) (Nat.le_trans au6 zo);have Sr:=zh (MH _ y m wr HY.out zo (fun i hi=>Nat.le_trans (zN hys i) (by have:=Nat.mul_le_mul_left 10002 (show i≤12 by omega);omega)) (Nat.le_trans hys zo));have HYS:=zh hys;have HY0:=zh hy0;have HBr:=zh hb;clear hb hys hy0;go_wp2_with fail
   refine Sr.out.mono ?_;rintro e w4 ⟨v4,rfl,hb4,hv4⟩;obtain ⟨p4,l4,c4,rfl⟩:=hv4.slice;have HV4:=zh hv4;have HB4:=zh hb4;clear hv4 hb4 Sr;have HD:=zh (fK _ _ a (y^m) _ (HX.out.later (Bt HBr.out HB4.out)) HV4.out (Nat.pow_pos HY0.out) (Nat.le_trans HA.out zo));go_wp2_with fail
   refine HD.out.mono ?_;rintro e w5 ⟨v5,v6,rfl,hb5,hv5, -⟩;obtain ⟨p5,l5,c5,rfl⟩:=hv5.slice;have HV5:=zh hv5;have HB5:=zh (Bt HB4.out hb5);clear hv5 hb5 HD HV4 HB4;go_wp2_with fail
   refine (kW m _ zo).mono ?_;rintro e w6 ⟨v7,rfl,hb6,hv6⟩;obtain ⟨p6,l6,c6,rfl⟩:=hv6.slice;have sm:sz 1000000000 m≤2:=aR zo 2 _ zo;have HM:=zh (iU _ _ y m _ (HY.out.later (Bt HB5.out hb6)) hv6 (Nat.le_trans HYS.out zo) (Nat.le_trans sm zo));have aP4:=zh (HV5.out.later hb6);have HB6:=zh (Bt HB5.out hb6);clear hv6 hb6 HV5 HB5;go_wp2_with fail
   refine HM.out.mono ?_;rintro e w7 ⟨v8,rfl,iJ,hv7⟩;obtain ⟨p7,l7,c7,rfl⟩:=hv7.slice
   have s7:sz 1000000000 (y*m)≤10100:=by
    have h1:=jL (B:=1000000000) zo y m;have h2:=HYS.out;omega
   have s5:sz 1000000000 (a / y^m)≤10000:=Nat.le_trans (dh zo (Nat.div_le_self _ _)) HA.out;have HP:=zh (Ca _ _ (y*m) (a / y^m) _ hv7 (aP4.out.later iJ) (Nat.le_trans s7 zo) (Nat.le_trans s5 zo))
   have aP7:Hid (sz 1000000000 (y*m+a / y^m)≤1099511627776):=zh (by
    have:=wV (B:=1000000000) zo (y*m) (a / y^m);omega)
   have HB7:=zh (Bt HB6.out iJ);clear hv7 iJ HM aP4 HB6 s7 s5;go_wp2_with fail
   refine HP.out.mono ?_;rintro e w8 ⟨v9,rfl,qN,qA⟩;obtain ⟨p8,l8,c8,rfl⟩:=qA.slice;have HSH:=zh (yu _ _ k _ qA aP7.out zo zo);have HB8:=zh (Bt HB7.out qN);clear qA qN HP aP7 HB7;have en:(y*m+a / y^m) / k=Qo k a y:=by unfold Qo;rw [show k - 1=m by have:=hm.out;omega]
   rw [en] at HSH;obtain ⟨z,Ez⟩:∃ z,Hid (Qo k a y=z):=⟨_,zh rfl⟩;rw [Ez.out] at HSH;clear en;go_wp2_with fail
   refine HSH.out.mono ?_;rintro e w9 ⟨v10,rfl,tT,hv9⟩;obtain ⟨p9,l9,c9,rfl⟩:=hv9.slice;have HV9:=zh hv9;have HB9:=zh (Bt HB8.out tT);have HCM:=zh (iO _ _ z y _ hv9 (HY.out.later (Bt HB8.out tT)));clear hv9 tT HSH HB8;go_wp2_with fail
   refine HCM.out.mono ?_;rintro e w10 ⟨rfl,iG⟩;have aD9:=zh (Bt HB9.out iG);have aP6:=zh (HV9.out.later iG);have HYZ:=zh (HY.out.later aD9.out);clear HCM HB9 HV9 iG
   rcases Nat.lt_or_ge z y with hlt|hge
   ·rw [qw hlt];have hz:=Bt HBr.out aD9.out;go_wp2_with fail
    go_roundw
    case rel=>exact ⟨z,aP6,zh ⟨by rw [← Ez.out];exact ak2 hk HY0.out,by have:=HR.out.2;omega⟩,hz⟩
    case measure=>rw [uK aP6.out,uK HY.out];exact hlt
   ·have g:decide ((0:Int)≤xq z y)=true:=by
     rcases Nat.eq_or_lt_of_le hge with h|h
     ·rw [h,rO];rfl
     ·rw [oJ h];rfl
    have hw:=Bt HBr.out aD9.out;have HE:Hid (y=dQ k a):=zh (Zf hk HY0.out HR.out.1 (by rw [Ez.out];exact hge));go_wp2_with fail
    go_ret
    exact ⟨_,rfl,hw,by rw [← HE.out];exact HYZ.out⟩
end Go.Proofs.whole
namespace Go.Proofs.whole
open Go Go.RowKit Go.SW Go.Num Go.Mem Go.Proofs Go.Dec Go.fF
def BS (z:Int):Value:=if jd z.natAbs=true then .tuple #[bL z,.int .i64 0] else .tuple #[.string ⟨#[]⟩,.int .i64 6]
theorem jO (v:Value) (z:Int) (w:World) (h:dB w v z) (kz:sz 1000000000 z.natAbs≤1099511627776) (ht:iR.Pow w) :
  Calls Tryz.prog 255 #[v] w (fun e w'=>e= .returned (BS z)∧Below w.heap.size w w'):=by
 obtain ⟨pa,l,ca,rfl,hm⟩:=h
 have hlen:((1+(Lib.decDigits z.natAbs).length:Nat):Int)≤9223372036854775807:=by
  have h1:=uV (aT (B:=1000000000) zo z.natAbs);rw [aP zo] at h1;unfold sz at kz;omega
 have ar7:¬ 9223372036854775807<1+(Lib.decDigits z.natAbs).length:=by omega
 have Jo:=zh (fun W (hW:Below w.heap.size w W)=>kH _ z.natAbs W (hm.later hW) kz (ht.later hW));have HDI:=zh (fun W (hW:Below w.heap.size w W)=>qZ _ z.natAbs W (hm.later hW) kz (ht.later hW));unfold BS;clear hm kz ht hlen
 rcases Nat.lt_or_ge 600 (Lib.decDigits z.natAbs).length with hb|hb
 ·rw [if_neg (by rw [Qi hb];decide)];have g:decide ((600:Int)<((Lib.decDigits z.natAbs).length:Int))=true:=by simp;omega
  clear hb ar7;generalize (Lib.decDigits z.natAbs).length=n at *;generalize decide (z<0)=b at *;go_enter Tryz.func255,Tryz.ntmps255
  go_wp2_with fail
  refine (Jo.out _ aD).mono ?_;rintro e w1 ⟨rfl,hb1⟩;have hw:=Bt (show Below w.heap.size w (w.alloc (.cells #[.slice pa l ca,.bool b] 257)) from aD) hb1;go_wp2_with fail
  go_ret2
  exact ⟨rfl,hw⟩
 ·rw [if_pos (dI.2 hb)];have g:decide ((600:Int)<((Lib.decDigits z.natAbs).length:Int))=false:=by simp;omega
  by_cases hz:z<0
  ·have e:bL z= .string ⟨(45::Lib.decDigits z.natAbs).toArray⟩:=by unfold bL Lib.itoa;rw [if_pos hz]
   rw [e,decide_eq_true hz];clear e hz hb;go_enter Tryz.func255,Tryz.ntmps255
   go_wp2_with fail
   refine (Jo.out _ aD).mono ?_;rintro e w1 ⟨rfl,hb1⟩;have hx:=ah.later (ah.new w #[.slice pa l ca,.bool true] 257) hb1;have cx:=hx.cell;have lx:=hx.lt;have HW:=zh (Bt (show Below w.heap.size w (w.alloc (.cells #[.slice pa l ca,.bool true] 257)) from aD) hb1);go_wp2_with fail
   refine (HDI.out _ HW.out).mono ?_;rintro e w2 ⟨rfl,hb2⟩;have hw:=Bt HW.out hb2;go_wp2_with fail
   go_ret2
   exact ⟨rfl,hw⟩
  ·have e:bL z= .string ⟨(Lib.decDigits z.natAbs).toArray⟩:=by unfold bL Lib.itoa;rw [if_neg hz,show z.toNat=z.natAbs by omega]
   rw [e,decide_eq_false hz];clear e hz hb;go_enter Tryz.func255,Tryz.ntmps255
   go_wp2_with fail
   refine (Jo.out _ aD).mono ?_;rintro e w1 ⟨rfl,hb1⟩;have hx:=ah.later (ah.new w #[.slice pa l ca,.bool false] 257) hb1;have cx:=hx.cell;have lx:=hx.lt;have HW:=zh (Bt (show Below w.heap.size w (w.alloc (.cells #[.slice pa l ca,.bool false] 257)) from aD) hb1);go_wp2_with fail
   refine (HDI.out _ HW.out).mono ?_;rintro e w2 ⟨rfl,hb2⟩;have hw:=Bt HW.out hb2;go_wp2_with fail
   go_ret2
   exact ⟨rfl,hw⟩
theorem qz {a b:Nat} (h:jd b=true) (hab:a≤b):jd a=true:=by
 unfold jd at *;have:=of_decide_eq_true h;exact decide_eq_true zo
theorem oO {k a:Nat} (hk:1≤k):dQ k a≤a:=by
 have h:=(jZ hk a).1
 rcases Nat.eq_zero_or_pos (dQ k a) with h0|h0
 ·omega
 ·have:=Nat.le_self_pow (by omega:k≠0) (dQ k a);omega
theorem tZ {a:Nat} (h:jd a=true):BS (a:Int)= .tuple #[bL (a:Int),.int .i64 0]:=by
 unfold BS;rw [Int.natAbs_natCast,if_pos h]
theorem zB (a k:Nat) (ha:jd a=true) (hk:1≤k) (k12:k≤12) (w:World) (ht:iR.Pow w) :
  Calls Tryz.prog 232 #[bL (a:Int),.int .i64 (k:Int)] w (fun e w'=>e= .returned (.tuple #[bL (dQ k a:Nat),.int .i64 0])∧Below w.heap.size w w'):=by
 have hd:(Lib.decDigits a).length≤600:=dI.1 ha;have hs:=jw ha;have hro:jd (dQ k a)=true:=qz ha (oO hk);have HR:=zh (fun W=>yD (a:Int) (by rw [Int.natAbs_natCast];exact hd) W);have HRT:=zh (fun x W hx hp=>yB x a k W hx hk k12 zo zo hp);have Pk:=zh (fun v W h hp=>jO v (dQ k a:Nat) W h (by rw [Int.natAbs_natCast];exact Nat.le_trans (jw hro) zo) hp);rw [tZ hro] at Pk;have HP:=zh ht;have g0:decide ((a:Int)<0)=false:=by simp
 have g1:decide ((k:Int)<1)=false:=by simp;omega
 have g2:decide ((12:Int)<(k:Int))=false:=by simp;omega
 clear hd hs hro ha ht;obtain ⟨r,Er⟩:∃ r,dQ k a=r:=⟨_,rfl⟩;rw [Er] at HRT Pk ⊢;clear Er;unfold bL at HR Pk ⊢;generalize (⟨(Lib.itoa (a:Int)).toArray⟩:ByteArray)=ta at *;generalize (⟨(Lib.itoa (r:Int)).toArray⟩:ByteArray)=tr at *;go_enter Tryz.func232,Tryz.ntmps232
 go_wp2_with fail
 refine (HR.out _).mono ?_;rintro e w1 ⟨v,rfl,hb1,hv⟩;obtain ⟨pa,l,ca,rfl,hm⟩:=hv;rw [Int.natAbs_natCast] at hm;rw [g0];have HM:=zh hm;have HB1:=zh hb1;clear hm hb1;go_wp2_with fail
 have hb2:Below w1.heap.size w1 (w1.alloc (.cells #[.slice pa l ca,.bool false] 257)):=aD;refine (HRT.out _ _ (HM.out.later hb2) (HP.out.later (Bt HB1.out hb2))).mono ?_;rintro e w2 ⟨v,rfl,hb3,hv⟩;obtain ⟨p2,l2,c2,rfl⟩:=hv.slice;have HM2:=zh hv;have HB2:=zh (Bt HB1.out (Bt hb2 hb3));clear hv hb2 hb3;go_wp2_with fail
 refine (dJ _ r false _ HM2.out).mono ?_;rintro e w3 ⟨v,rfl,hb4,hv⟩;obtain ⟨p3,l3,c3,rfl,hm3⟩:=id hv;have HI:=zh (hv.cast (show gT r false=(r:Int) from rfl));have HB3:=zh (Bt HB2.out hb4);have g3:decide (gT r false<0)=false:=by unfold gT;simp
 rw [g3] at HI ⊢;clear hv hm3 hb4;go_wp2_with fail
 refine (Pk.out _ _ HI.out (HP.out.later HB3.out)).mono ?_;rintro e w4 ⟨rfl,hb5⟩;have hw:=Bt HB3.out hb5;go_wp2_with fail
 go_ret2
 exact ⟨rfl,hw⟩
theorem xU (a n:Nat) (ha:jd a=true) (n40:n≤40) (w:World) (ht:iR.Pow w) :
  Calls Tryz.prog 200 #[bL (a:Int),.int .i64 (n:Int)] w (fun e w'=>e= .returned (BS (a^n:Nat))∧Below w.heap.size w w'):=by
 have hd:(Lib.decDigits a).length≤600:=dI.1 ha;have hs:=jw ha;have hp:∀ i,i≤n→sz 1000000000 (a^i)≤10000:=fun i hi=>Nat.le_trans (zN hs i) (by have:=Nat.mul_le_mul_left 67 (show i≤40 by omega);omega);have HR:=zh (fun W=>yD (a:Int) (by rw [Int.natAbs_natCast];exact hd) W);have HRT:=zh (fun x W hx=>MH x a n W hx zo (fun i hi=>Nat.le_trans (hp i hi) zo) zo);have Pk:=zh (fun v W h hq=>jO v (a^n:Nat) W h (by rw [Int.natAbs_natCast];exact Nat.le_trans (hp n (Nat.le_refl _)) zo) hq);have HP:=zh ht;have g0:decide ((a:Int)<0)=false:=by simp
 have g1:decide ((n:Int)<0)=false:=by simp
 have g2:decide ((40:Int)<(n:Int))=false:=by simp;omega
 clear hd hs hp ha ht;obtain ⟨r,Er⟩:∃ r,a^n=r:=⟨_,rfl⟩;rw [Er] at HRT Pk ⊢;clear Er
 obtain ⟨tr,kr,Ew⟩:∃ tr kr,BS (r:Int)= .tuple #[.string tr,.int .i64 kr]:=by
  unfold BS bL;split
  ·exact ⟨_,_,rfl⟩
  ·exact ⟨_,_,rfl⟩
 rw [Ew] at Pk ⊢;clear Ew;unfold bL at HR ⊢;generalize (⟨(Lib.itoa (a:Int)).toArray⟩:ByteArray)=ta at *;go_enter Tryz.func200,Tryz.ntmps200
 go_wp2_with fail
 refine (HR.out _).mono ?_;rintro e w1 ⟨v,rfl,hb1,hv⟩;obtain ⟨pa,l,ca,rfl,hm⟩:=hv;rw [Int.natAbs_natCast] at hm;rw [g0];have HM:=zh hm;have HB1:=zh hb1;clear hm hb1;go_wp2_with fail
 obtain ⟨wx,EW,hz,X⟩:=wO w1 #[.slice pa l ca,.bool false] 257;rw [EW];clear EW;replace HM:=zh (HM.out.later hz);have HB2:=zh (Bt HB1.out hz);clear hz HB1;obtain ⟨bx,eb⟩:∃ y,w1.heap.size=y:=⟨_,rfl⟩;rw [eb] at X ⊢;have cX:=X.out.cell;have lX:=X.out.lt;refine aF [(.pure,0),(.read,1),(.pure,2),(.pure,4),(.read,5),(.ext,3),(.pure,6),(.pure,7),(.pure,8),(.pure,9),(.pure,10),(.ext,11),(.ext,12),(.pure,13),(.pure,14),(.fin,15),(.fin,16)] zk zk zR zP ?_;refine zW ?_;refine aH rfl rfl (fun we hbe J hJ=>?_);go_simp;have h1:Below wx.heap.size wx we:=aD;refine (HRT.out _ _ (HM.out.later h1)).mono ?_;rintro e w2 ⟨v,rfl,hb2,hv⟩;obtain ⟨p2,l2,c2,rfl⟩:=hv.slice;refine hJ _ _ hb2 ?_;clear hJ J;have HM2:=zh hv;have h2:=Bt h1 hb2;clear hv h1 hbe hb2
 repeat (first|(refine oG rfl rfl (fun J hJ=>?_);go_simp;refine hJ _ ?_;clear hJ J)|(refine vF rfl rfl rfl (fun J hJ=>?_);go_simp;refine hJ _ ?_;clear hJ J))
 refine aH rfl rfl (fun we hbe J hJ=>?_);go_simp;have h3:Below w2.heap.size w2 we:=aD;refine (dJ _ r false _ (HM2.out.later h3)).mono ?_;rintro e w3 ⟨v,rfl,hb3,hv⟩;obtain ⟨p3,l3,c3,rfl,hm3⟩:=id hv;have HI:=zh (hv.cast (show gT r false=(r:Int) from rfl));have g3:decide (gT r false<0)=false:=by unfold gT;simp
 rw [g3] at HI ⊢;refine hJ _ _ hb3 ?_;clear hJ J;have h4:=Bt h2 (Bt h3 hb3);clear hv hm3 hb3 h3 h2 hbe
 repeat (first|(refine oG rfl rfl (fun J hJ=>?_);go_simp;refine hJ _ ?_;clear hJ J)|(refine vF rfl rfl rfl (fun J hJ=>?_);go_simp;refine hJ _ ?_;clear hJ J))
 refine aH rfl rfl (fun we hbe J hJ=>?_);go_simp;have h5:Below w3.heap.size w3 we:=aD;refine (Pk.out _ _ (HI.out.later h5) (HP.out.later (Bt HB2.out (Bt h4 h5)))).mono ?_;rintro e w4 ⟨rfl,hb4⟩;refine hJ _ _ hb4 ?_;clear hJ J;have h6:=Bt h4 (Bt h5 hb4);clear hb4 h5 h4 hbe
 repeat (first|(refine oG rfl rfl (fun J hJ=>?_);go_simp;refine hJ _ ?_;clear hJ J)|(refine vF rfl rfl rfl (fun J hJ=>?_);go_simp;refine hJ _ ?_;clear hJ J))
 refine aU [_,_] rfl (fun wf hbf=>?_);have hw:Below w.heap.size w wf:=Bt HB2.out (Bt h6 aD);go_wp2_with fail
 go_ret2
 exact ⟨rfl,hw⟩
end Go.Proofs.whole
namespace Go.Mem
open Go Go.RowKit
section
variable {P:Program} {fn:Func} {R:Ending→World→Prop} {w:World} {tmps:Array Value}
theorem Mr {p q u:Tmp} {ty Bu:TypeId} (h:fn.results=#[.cell p ty,.cell q Bu,.tmp u]) :
  (results fn tmps).run P w=((asAddr (tmps.getD p undef)).run P w).andThen fun a w₁=>((loadVar ty a).run P w₁).andThen fun v w₂=>((asAddr (tmps.getD q undef)).run P w₂).andThen fun a' w₃=>((loadVar Bu a').run P w₃).andThen fun v' w₄=>.ok (.tuple #[v,v',tmps.getD u undef]) w₄:=by
 simp only [results,h];simp [Sem.run_bind,Result.andThen]
theorem ah7 {p q u:Tmp} {ty Bu t t2:TypeId} {g g2:Nat} {cs cs2:Array Value} {d d2:TypeDesc} (h:fn.results=#[.cell p ty,.cell q Bu,.tmp u])
  (hp:tmps.getD p undef= .pointer (some ⟨g,0,none⟩)) (hg:ah w g cs t) (hu:P.underlying ty=some d) (hd:(match d with| .struct _| .array _ _=>true| _=>false)=true) (hi:(P.info? ty).map (·.size)=some cs.size)
  (hp2:tmps.getD q undef= .pointer (some ⟨g2,0,none⟩)) (hg2:ah w g2 cs2 t2) (hu2:P.underlying Bu=some d2) (hd2:(match d2 with| .struct _| .array _ _=>true| _=>false)=true) (hi2:(P.info? Bu).map (·.size)=some cs2.size)
  (k:R (.returned (.tuple #[.agg cs,.agg cs2,tmps.getD u undef])) w):bodyPost P fn R .ret { tmps:=tmps,defers:=[] } w:=by
 have e:(results fn tmps).run P w= .ok (.tuple #[.agg cs,.agg cs2,tmps.getD u undef]) w:=by
  rw [Mr h,hp];simp only [asAddr,Sem.run_pure,Result.andThen_ok];rw [run_loadVar_row w g t ty cs (0,0) d hg hu hd hi];simp only [Result.andThen_ok];rw [hp2];simp only [asAddr,Sem.run_pure,Result.andThen_ok];rw [run_loadVar_row w g2 t2 Bu cs2 (0,0) d2 hg2 hu2 hd2 hi2];rfl
 refine bodyPost_ret e rfl k
end
end Go.Mem
namespace Go.Proofs.whole
open Go Go.RowKit Go.SW Go.Num Go.Mem Go.Proofs Go.Dec Go.fF
theorem JV (a b:Nat) (ha:(Lib.decDigits a).length≤600) (hb:(Lib.decDigits b).length≤600) (w:World) :
  Calls Tryz.prog 307 #[bL (a:Int),bL (b:Int)] w (fun e w'=>∃ p1 l1 c1 p2 l2 c2,e= .returned (.tuple #[.agg #[.slice p1 l1 c1,.bool false],.agg #[.slice p2 l2 c2,.bool false],.int .i64 0])∧Below w.heap.size w w'∧aQ w' (.slice p1 l1 c1) a∧aQ w' (.slice p2 l2 c2) b):=by
 have RA:Hid (∀ W,Calls Tryz.prog 254 #[bL (a:Int)] W (fun e w'=>∃ p l c,e= .returned (.tuple #[.agg #[.slice p l c,.bool false],.bool true])∧Below W.heap.size W w'∧aQ w' (.slice p l c) a)):=zh fun W=>(yD (a:Int) (by rw [Int.natAbs_natCast];exact ha) W).mono fun e w' ⟨v,h1,h2,p,l,c,h3,h4⟩=>by
  rw [Int.natAbs_natCast] at h4;have g0:decide ((a:Int)<0)=false:=by simp
  rw [g0] at h3;exact ⟨p,l,c,by rw [h1,h3],h2,h4⟩
 have RB:Hid (∀ W,Calls Tryz.prog 254 #[bL (b:Int)] W (fun e w'=>∃ p l c,e= .returned (.tuple #[.agg #[.slice p l c,.bool false],.bool true])∧Below W.heap.size W w'∧aQ w' (.slice p l c) b)):=zh fun W=>(yD (b:Int) (by rw [Int.natAbs_natCast];exact hb) W).mono fun e w' ⟨v,h1,h2,p,l,c,h3,h4⟩=>by
  rw [Int.natAbs_natCast] at h4;have g0:decide ((b:Int)<0)=false:=by simp
  rw [g0] at h3;exact ⟨p,l,c,by rw [h1,h3],h2,h4⟩
 clear ha hb;unfold bL at *;generalize (⟨(Lib.itoa (a:Int)).toArray⟩:ByteArray)=ta at *;generalize (⟨(Lib.itoa (b:Int)).toArray⟩:ByteArray)=tb at *;go_enter Tryz.func307,Tryz.ntmps307
 go_wp2_with fail
 obtain ⟨jN,EW,hz,X1,X2⟩:=Gj w #[.slice none 0 0,.bool false] 257 #[.slice none 0 0,.bool false] 257;rw [EW];have hk2:=Bt (Below.refl _ _) hz;clear EW hz;refine (RA.out _).mono ?_;rintro e kE ⟨p1,l1,c1,rfl,hb3,hm⟩;replace X1:=X1.bl hb3;replace X2:=X2.bl hb3;have hk5:=Bt hk2 hb3;clear hk2;have NX:=zh hm;clear hb3 hm;obtain ⟨jV,jU,lJ⟩:=X1.clf;go_wp2_with fail
 clear jV jU lJ;have hz:Below w.heap.size w ((kE.setCell ⟨w.heap.size,0,none⟩ (.slice p1 l1 c1)).setCell ⟨w.heap.size,1,none⟩ (.bool false)):=aD;obtain ⟨wq6,EW⟩:∃ y,((kE.setCell ⟨w.heap.size,0,none⟩ (.slice p1 l1 c1)).setCell ⟨w.heap.size,1,none⟩ (.bool false))=y:=⟨_,rfl⟩;have tX1:=((X1.out.set 0 (.slice p1 l1 c1)).set 1 (.bool false));have tX2:=((X2.out.setOther (a:=⟨w.heap.size,0,none⟩) (.slice p1 l1 c1) (by first|assumption|(simp;done)|(simp;omega))).setOther (a:=⟨w.heap.size,1,none⟩) (.bool false) (by first|assumption|(simp;done)|(simp;omega)));have tNX:=((NX.out.setOther X1.out zd 0 (.slice p1 l1 c1)).setOther (X1.out.set 0 (.slice p1 l1 c1)) zd 1 (.bool false));rw [EW] at tX1;replace X1:Hid (ah wq6 (w.heap.size) #[.slice p1 l1 c1,.bool false] 257):=zh tX1;clear tX1;rw [EW] at tX2;replace X2:Hid (ah wq6 (w.heap.size+1) #[.slice none 0 0,.bool false] 257):=zh tX2;clear tX2
 rw [EW] at tNX;replace NX:=zh tNX;clear tNX;rw [EW] at hz ⊢;clear EW;clear hk5;have hk6:=hz;clear hz;refine (RB.out _).mono ?_;rintro e sQ ⟨p2,l2,c2,rfl,iJ,hm⟩;replace X1:=X1.bl iJ;replace X2:=X2.bl iJ;replace NX:=zh (NX.out.later iJ);have hk9:=Bt hk6 iJ;clear hk6;have NY:=zh hm;clear iJ hm;obtain ⟨tH,tF,xI⟩:=X2.clf;have HK:=zh hk9;obtain ⟨wl,Ewl⟩:∃ y,y=sQ:=⟨_,rfl⟩;subst Ewl;have c1':=X1.out.cell;have l1':=X1.out.lt;have f1':=X1.out.free;have c2':=X2.out.cell;have l2':=X2.out.lt;have f2':=X2.out.free;go_wp2_with fail
 go_region
 go_wp2_with fail
 have hw:=HK.out;have hx1:=X1.out;have hx2:=X2.out;refine ah7 rfl rfl aJ Tryz.underlying257 rfl zk rfl aJ Tryz.underlying257 rfl zk ?_;exact ⟨_,_,_,_,_,_,rfl,aD,aI,aI⟩
end Go.Proofs.whole
namespace Go.Proofs.whole
open Go Go.RowKit Go.SW Go.Num Go.Mem Go.Proofs Go.Dec
theorem xB (v u:Value) (z y:Int) (w:World) (h:dB w v z) (h2:dB w u y) (kz:sz 1000000000 z.natAbs≤549755813888) (ky:sz 1000000000 y.natAbs≤549755813888) :
  Calls Tryz.prog 310 #[v,u] w (fun e w'=>∃ v,e= .returned v∧Below w.heap.size w w'∧dB w' v (z*y)):=by
 obtain ⟨MW,lH,Om,rfl,H⟩:=h;replace H:=zh H;obtain ⟨bh4,lH2,bm3,rfl,H2⟩:=h2;replace H2:=zh H2;have KZ:=zh kz;have KY:=zh ky;clear kz ky;go_enter Tryz.func310,Tryz.ntmps310
 go_wp2_with fail
 refine aF [(.pure,0),(.read,1),(.pure,2),(.read,3),(.pure,5),(.read,6),(.pure,7),(.read,8),(.pure,9),(.ext,4),(.ext,10),(.fin,11)] zk zk zR zP ?_;refine zV ?_;refine aH rfl rfl (fun w1 hb1 J hJ=>?_);go_simp;have BR:=ah.later (ah.drew (ah.at2 _ _ _ _ _)) hb1;have bK:=BR.cell;have bJ:=BR.free;refine (iU _ _ z.natAbs y.natAbs _ aI aI (Nat.le_trans KZ.out zo) (Nat.le_trans KY.out zo)).mono ?_;rintro e v1 ⟨v,rfl,hc1,hv⟩;obtain ⟨aw1,lHS,aB7,rfl⟩:=hv.slice;have HS:=zh hv;clear hv;replace BR:=ah.later (BR) hc1;replace bK:=BR.cell;replace bJ:=BR.free;refine hJ _ _ hc1 ?_;clear hJ J;refine aH rfl rfl (fun w2 hb2 J hJ=>?_);go_simp;replace BR:=ah.later (BR) hb2;replace bK:=BR.cell;replace bJ:=BR.free;refine (dJ _ (z.natAbs*y.natAbs) _ _ aI).mono ?_;rintro e v2 ⟨v,rfl,hc2,hv⟩;obtain ⟨aw0,lHT,aB6,rfl,HT⟩:=hv;replace HT:=zh HT
 replace BR:=ah.later (BR) hc2;replace bK:=BR.cell;replace bJ:=BR.free;refine hJ _ _ hc2 ?_;clear hJ J;refine aU [_] rfl (fun w5 hb5=>?_);replace BR:=ah.later (BR) hb5;replace bK:=BR.cell;replace bJ:=BR.free;go_wp2_with fail
 refine dH rfl rfl aJ Tryz.underlying257 rfl zk ?_;exact ⟨_,rfl,aD,(dB.dX aI).cast (yx z y)⟩
end Go.Proofs.whole
namespace Go.Proofs.whole
open Go Go.RowKit Go.SW Go.Num Go.Mem Go.Proofs Go.Dec Go.fF
theorem Ho (a b:Nat) (ha:jd a=true) (hb:jd b=true) (w:World) (ht:iR.Pow w) :
  Calls Tryz.prog 277 #[.int .i64 2,bL (a:Int),bL (b:Int)] w (fun e w'=>e= .returned (BS (a*b:Nat))∧Below w.heap.size w w'):=by
 have sa:=jw ha;have sb:=jw hb
 have sr:sz 1000000000 (a*b)≤1000:=by
  have h1:=jL (B:=1000000000) zo a b;have h2:=wV (B:=1000000000) zo a b;omega
 have XJ:=zh (fun W=>JV a b (dI.1 ha) (dI.1 hb) W);have HOP:=zh (fun v u W hv hu=>xB v u (a:Int) (b:Int) W hv hu (by rw [Int.natAbs_natCast];omega) (by rw [Int.natAbs_natCast];omega));have Pk:=zh (fun v W h hq=>jO v (a*b:Nat) W h (by rw [Int.natAbs_natCast];omega) hq);have HP:=zh ht;clear sa sb sr ha hb ht;have e:(a:Int)*(b:Int)=((a*b:Nat):Int):=by simp
 rw [e] at HOP;have g0:decide ((a:Int)<0)=false:=by simp
 have g1:decide ((b:Int)<0)=false:=by simp
 have IA:Hid (∀ W p l c,aQ W (.slice p l c) a→dB W (.agg #[.slice p l c,.bool false]) (a:Int)):=zh fun W p l c h=>⟨p,l,c,by rw [g0],by rw [Int.natAbs_natCast];exact h⟩;have IB:Hid (∀ W p l c,aQ W (.slice p l c) b→dB W (.agg #[.slice p l c,.bool false]) (b:Int)):=zh fun W p l c h=>⟨p,l,c,by rw [g1],by rw [Int.natAbs_natCast];exact h⟩;clear e g0 g1;obtain ⟨r,Er⟩:∃ r,a*b=r:=⟨_,rfl⟩;rw [Er] at HOP Pk ⊢;clear Er
 obtain ⟨tr,kr,Ew⟩:∃ tr kr,BS (r:Int)= .tuple #[.string tr,.int .i64 kr]:=by
  unfold BS bL;split
  ·exact ⟨_,_,rfl⟩
  ·exact ⟨_,_,rfl⟩
 rw [Ew] at Pk ⊢;clear Ew;unfold bL at XJ ⊢;generalize (⟨(Lib.itoa (a:Int)).toArray⟩:ByteArray)=ta at *;generalize (⟨(Lib.itoa (b:Int)).toArray⟩:ByteArray)=tb at *;go_enter Tryz.func277,Tryz.ntmps277
 go_wp2_with fail
 refine (XJ.out _).mono ?_;rintro e w1 ⟨p1,l1,c1,p2,l2,c2,rfl,hb1,hx,hy⟩;have HX:=zh hx;have HY:=zh hy;have HB1:=zh hb1;clear hx hy hb1;go_wp2_with fail
 obtain ⟨wx,EW,hz,X1,X2,X3⟩:=Ji w1 #[.slice p1 l1 c1,.bool false] 257 #[.slice p2 l2 c2,.bool false] 257 #[.func (.func 308) #[] #[],.func (.func 309) #[] #[],.func (.func 310) #[] #[],.func (.func 311) #[] #[]] 308;rw [EW];clear EW;replace HX:=zh (HX.out.later hz);replace HY:=zh (HY.out.later hz);have HB2:=zh (Bt HB1.out hz);clear hz HB1;obtain ⟨bx,eb⟩:∃ y,w1.heap.size=y:=⟨_,rfl⟩;rw [eb] at X1 X2 X3 ⊢;have jV:=X1.out.cell;have jU:=X1.out.lt;have tH:=X2.out.cell;have tF:=X2.out.lt;have cX3:=X3.out.cell;have Zw:=X3.out.lt;refine aF [(.pure,0),(.pure,1),(.pure,2),(.read,3),(.read,4),(.read,5),(.ext,6),(.ext,7),(.pure,8),(.pure,9),(.fin,10),(.fin,11)] zk zk zR zP ?_;refine zV ?_;refine aH rfl rfl (fun we hbe J hJ=>?_);go_simp;have h1:Below wx.heap.size wx we:=aD;refine (HOP.out _ _ _ (IA.out _ _ _ _ (HX.out.later h1)) (IB.out _ _ _ _ (HY.out.later h1))).mono ?_
 rintro e w2 ⟨v,rfl,hb2,hv⟩;obtain ⟨p3,l3,c3,rfl,hm3⟩:=id hv;have HI:=zh hv;generalize decide ((r:Int)<0)=br at *;refine hJ _ _ hb2 ?_;clear hJ J;have h2:=Bt h1 hb2;clear hv h1 hbe hb2 hm3;refine zV ?_;refine aH rfl rfl (fun we hbe J hJ=>?_);go_simp;have h5:Below w2.heap.size w2 we:=aD;refine (Pk.out _ _ (HI.out.later h5) (HP.out.later (Bt HB2.out (Bt h2 h5)))).mono ?_;rintro e w4 ⟨rfl,hb4⟩;refine hJ _ _ hb4 ?_;clear hJ J;have h6:=Bt h2 (Bt h5 hb4);clear hb4 h5 h2 hbe;refine zV ?_;refine aU [_,_] rfl (fun wf hbf=>?_);have hw:Below w.heap.size w wf:=Bt HB2.out (Bt h6 aD);go_wp2_with fail
 go_ret2
 exact ⟨rfl,hw⟩
theorem qJ (a b:Nat) (ha:jd a=true) (hb:jd b=true) (w:World) (ht:iR.Pow w) :
  Calls Tryz.prog 289 #[bL (a:Int),bL (b:Int)] w (fun e w'=>e= .returned (BS (a*b:Nat))∧Below w.heap.size w w'):=by
 have H:=zh (Ho a b ha hb w ht)
 obtain ⟨tr,kr,Ew⟩:∃ tr kr,BS (a*b:Nat)= .tuple #[.string tr,.int .i64 kr]:=by
  unfold BS bL;split
  ·exact ⟨_,_,rfl⟩
  ·exact ⟨_,_,rfl⟩
 rw [Ew] at H ⊢;clear Ew ha hb ht;unfold bL at *;generalize (⟨(Lib.itoa (a:Int)).toArray⟩:ByteArray)=ta at *;generalize (⟨(Lib.itoa (b:Int)).toArray⟩:ByteArray)=tb at *;go_enter Tryz.func289,Tryz.ntmps289
 go_wp2_with fail
 refine H.out.mono ?_;rintro e w1 ⟨rfl,hb1⟩;go_wp2_with fail
 go_ret2
 exact ⟨rfl,hb1⟩
theorem Hw (a b:Nat) (ha:jd a=true) (hb:jd b=true) (w:World) (ht:iR.Pow w) :
  Calls Tryz.prog 277 #[.int .i64 0,bL (a:Int),bL (b:Int)] w (fun e w'=>e= .returned (BS (a+b:Nat))∧Below w.heap.size w w'):=by
 have sa:=jw ha;have sb:=jw hb
 have sr:sz 1000000000 (a+b)≤1000:=by
  have h1:=jL (B:=1000000000) zo a b;have h2:=wV (B:=1000000000) zo a b;omega
 have XJ:=zh (fun W=>JV a b (dI.1 ha) (dI.1 hb) W);have HOP:=zh (fun v u W hv hu=>wW v u (a:Int) (b:Int) W hv hu (by rw [Int.natAbs_natCast];omega) (by rw [Int.natAbs_natCast];omega));have Pk:=zh (fun v W h hq=>jO v (a+b:Nat) W h (by rw [Int.natAbs_natCast];omega) hq);have HP:=zh ht;clear sa sb sr ha hb ht;have e:(a:Int)+(b:Int)=((a+b:Nat):Int):=by simp
 rw [e] at HOP;have g0:decide ((a:Int)<0)=false:=by simp
 have g1:decide ((b:Int)<0)=false:=by simp
 have IA:Hid (∀ W p l c,aQ W (.slice p l c) a→dB W (.agg #[.slice p l c,.bool false]) (a:Int)):=zh fun W p l c h=>⟨p,l,c,by rw [g0],by rw [Int.natAbs_natCast];exact h⟩;have IB:Hid (∀ W p l c,aQ W (.slice p l c) b→dB W (.agg #[.slice p l c,.bool false]) (b:Int)):=zh fun W p l c h=>⟨p,l,c,by rw [g1],by rw [Int.natAbs_natCast];exact h⟩;clear e g0 g1;obtain ⟨r,Er⟩:∃ r,a+b=r:=⟨_,rfl⟩;rw [Er] at HOP Pk ⊢;clear Er
 obtain ⟨tr,kr,Ew⟩:∃ tr kr,BS (r:Int)= .tuple #[.string tr,.int .i64 kr]:=by
  unfold BS bL;split
  ·exact ⟨_,_,rfl⟩
  ·exact ⟨_,_,rfl⟩
 rw [Ew] at Pk ⊢;clear Ew;unfold bL at XJ ⊢;generalize (⟨(Lib.itoa (a:Int)).toArray⟩:ByteArray)=ta at *;generalize (⟨(Lib.itoa (b:Int)).toArray⟩:ByteArray)=tb at *;go_enter Tryz.func277,Tryz.ntmps277
 go_wp2_with fail
 refine (XJ.out _).mono ?_;rintro e w1 ⟨p1,l1,c1,p2,l2,c2,rfl,hb1,hx,hy⟩;have HX:=zh hx;have HY:=zh hy;have HB1:=zh hb1;clear hx hy hb1;go_wp2_with fail
 obtain ⟨wx,EW,hz,X1,X2,X3⟩:=Ji w1 #[.slice p1 l1 c1,.bool false] 257 #[.slice p2 l2 c2,.bool false] 257 #[.func (.func 308) #[] #[],.func (.func 309) #[] #[],.func (.func 310) #[] #[],.func (.func 311) #[] #[]] 308;rw [EW];clear EW;replace HX:=zh (HX.out.later hz);replace HY:=zh (HY.out.later hz);have HB2:=zh (Bt HB1.out hz);clear hz HB1;obtain ⟨bx,eb⟩:∃ y,w1.heap.size=y:=⟨_,rfl⟩;rw [eb] at X1 X2 X3 ⊢;have jV:=X1.out.cell;have jU:=X1.out.lt;have tH:=X2.out.cell;have tF:=X2.out.lt;have cX3:=X3.out.cell;have Zw:=X3.out.lt;refine aF [(.pure,0),(.pure,1),(.pure,2),(.read,3),(.read,4),(.read,5),(.ext,6),(.ext,7),(.pure,8),(.pure,9),(.fin,10),(.fin,11)] zk zk zR zP ?_;refine zV ?_;refine aH rfl rfl (fun we hbe J hJ=>?_);go_simp;have h1:Below wx.heap.size wx we:=aD;refine (HOP.out _ _ _ (IA.out _ _ _ _ (HX.out.later h1)) (IB.out _ _ _ _ (HY.out.later h1))).mono ?_
 rintro e w2 ⟨v,rfl,hb2,hv⟩;obtain ⟨p3,l3,c3,rfl,hm3⟩:=id hv;have HI:=zh hv;generalize decide ((r:Int)<0)=br at *;refine hJ _ _ hb2 ?_;clear hJ J;have h2:=Bt h1 hb2;clear hv h1 hbe hb2 hm3;refine zV ?_;refine aH rfl rfl (fun we hbe J hJ=>?_);go_simp;have h5:Below w2.heap.size w2 we:=aD;refine (Pk.out _ _ (HI.out.later h5) (HP.out.later (Bt HB2.out (Bt h2 h5)))).mono ?_;rintro e w4 ⟨rfl,hb4⟩;refine hJ _ _ hb4 ?_;clear hJ J;have h6:=Bt h2 (Bt h5 hb4);clear hb4 h5 h2 hbe;refine zV ?_;refine aU [_,_] rfl (fun wf hbf=>?_);have hw:Below w.heap.size w wf:=Bt HB2.out (Bt h6 aD);go_wp2_with fail
 go_ret2
 exact ⟨rfl,hw⟩
theorem qM (a b:Nat) (ha:jd a=true) (hb:jd b=true) (w:World) (ht:iR.Pow w) :
  Calls Tryz.prog 231 #[bL (a:Int),bL (b:Int)] w (fun e w'=>e= .returned (BS (a+b:Nat))∧Below w.heap.size w w'):=by
 have H:=zh (Hw a b ha hb w ht)
 obtain ⟨tr,kr,Ew⟩:∃ tr kr,BS (a+b:Nat)= .tuple #[.string tr,.int .i64 kr]:=by
  unfold BS bL;split
  ·exact ⟨_,_,rfl⟩
  ·exact ⟨_,_,rfl⟩
 rw [Ew] at H ⊢;clear Ew ha hb ht;unfold bL at *;generalize (⟨(Lib.itoa (a:Int)).toArray⟩:ByteArray)=ta at *;generalize (⟨(Lib.itoa (b:Int)).toArray⟩:ByteArray)=tb at *;go_enter Tryz.func231,Tryz.ntmps231
 go_wp2_with fail
 refine H.out.mono ?_;rintro e w1 ⟨rfl,hb1⟩;go_wp2_with fail
 go_ret2
 exact ⟨rfl,hb1⟩
theorem nJ (a b:Nat) (ha:jd a=true) (hb:jd b=true) (b0:0<b) (w:World) (ht:iR.Pow w) :
  Calls Tryz.prog 291 #[bL (a:Int),bL (b:Int)] w (fun e w'=>e= .returned (.tuple #[bL (a / b:Nat),bL (a%b:Nat),.int .i64 0])∧Below w.heap.size w w'):=by
 have sa:=jw ha;have q1:jd (a / b)=true:=qz ha (Nat.div_le_self _ _);have q2:jd (a%b)=true:=qz ha (Nat.mod_le _ _);have XJ:=zh (fun W=>JV a b (dI.1 ha) (dI.1 hb) W);have SK:=zh (fun x y W hx hy=>fK x y a b W hx hy b0 zo);have HW1:=zh (fun v W h hq=>jO v (a / b:Nat) W h (by rw [Int.natAbs_natCast];exact Nat.le_trans (jw q1) zo) hq);have HW2:=zh (fun v W h hq=>jO v (a%b:Nat) W h (by rw [Int.natAbs_natCast];exact Nat.le_trans (jw q2) zo) hq);rw [tZ q1] at HW1;rw [tZ q2] at HW2;have HP:=zh ht;have d0:decide (b=0)=false:=by simp;omega
 clear sa q1 q2 ha hb ht;obtain ⟨q,Eq⟩:∃ q,a / b=q:=⟨_,rfl⟩;obtain ⟨r,Er⟩:∃ r,a%b=r:=⟨_,rfl⟩;rw [Eq] at HW1;rw [Er] at HW2;have ba2:Hid (∀ x y W,aQ W x a→aQ W y b→Calls Tryz.prog 313 #[x,y] W (mM W q r)):=zh (by rw [← Eq,← Er];exact SK.out);rw [Eq,Er];clear SK Eq Er b0;unfold bL at *;generalize (⟨(Lib.itoa (a:Int)).toArray⟩:ByteArray)=ta at *;generalize (⟨(Lib.itoa (b:Int)).toArray⟩:ByteArray)=tb at *;generalize (⟨(Lib.itoa (q:Int)).toArray⟩:ByteArray)=tq at *;generalize (⟨(Lib.itoa (r:Int)).toArray⟩:ByteArray)=tr at *;go_enter Tryz.func291,Tryz.ntmps291
 go_wp2_with fail
 refine (XJ.out _).mono ?_;rintro e w1 ⟨p1,l1,c1,p2,l2,c2,rfl,hb1,hx,hy⟩;have HX:=zh hx;have HY:=zh hy;have HB1:=zh hb1;clear hx hy hb1
 go_upto_region 2 with fail
 obtain ⟨wx,EW,hz,X1,X2⟩:=Gj w1 #[.slice p1 l1 c1,.bool false] 257 #[.slice p2 l2 c2,.bool false] 257;rw [EW];clear EW;replace HX:=zh (HX.out.later hz);replace HY:=zh (HY.out.later hz);have HB2:=zh (Bt HB1.out hz);clear hz HB1;obtain ⟨bx,eb⟩:∃ y,w1.heap.size=y:=⟨_,rfl⟩;rw [eb] at X1 X2 ⊢;obtain ⟨jV,jU⟩:=X1.cl;obtain ⟨tH,tF⟩:=X2.cl;go_wp2_with fail
 refine (gF _ b _ HY.out).mono ?_;rintro e w2 ⟨rfl,rfl⟩;rw [d0];go_wp2_with fail
 refine (ba2.out _ _ _ HX.out HY.out).mono ?_;rintro e w3 ⟨v3,v4,rfl,hb3,hv3,hv4⟩;obtain ⟨p3,l3,c3,rfl⟩:=hv3.slice;obtain ⟨p4,l4,c4,rfl⟩:=hv4.slice;have HQ:=zh hv3;have HR:=zh hv4;have HB3:=zh (Bt HB2.out hb3);replace X1:=X1.bl hb3;replace X2:=X2.bl hb3;clear hv3 hv4 hb3 HX HY HB2 jV jU tH tF;obtain ⟨jV,jU⟩:=X1.cl;obtain ⟨tH,tF⟩:=X2.cl;go_wp2_with fail
 refine (dJ _ q false _ HQ.out).mono ?_;rintro e w4 ⟨v,rfl,hb4,hv⟩;obtain ⟨p5,l5,c5,rfl,hm5⟩:=id hv;have HI:=zh (hv.cast (show gT q false=(q:Int) from rfl));have g3:decide (gT q false<0)=false:=by unfold gT;simp
 rw [g3] at HI ⊢;have HB4:=zh (Bt HB3.out hb4);replace HR:=zh (HR.out.later hb4);clear hv hm5 hb4 HB3 g3 jV jU tH tF;go_wp2_with fail
 refine (HW1.out _ _ HI.out (HP.out.later HB4.out)).mono ?_;rintro e w5 ⟨rfl,hb5⟩;have HB5:=zh (Bt HB4.out hb5);replace HR:=zh (HR.out.later hb5);clear hb5 HB4 HI;go_wp2_with fail
 refine (dJ _ r false _ HR.out).mono ?_;rintro e w6 ⟨v,rfl,hb6,hv⟩;obtain ⟨p6,l6,c6,rfl,hm6⟩:=id hv;have HI:=zh (hv.cast (show gT r false=(r:Int) from rfl));have g3:decide (gT r false<0)=false:=by unfold gT;simp
 rw [g3] at HI ⊢;have HB6:=zh (Bt HB5.out hb6);clear hv hm6 hb6 HB5 g3;go_wp2_with fail
 refine (HW2.out _ _ HI.out (HP.out.later HB6.out)).mono ?_;rintro e w7 ⟨rfl,iJ⟩;have hw:=Bt HB6.out iJ;go_wp2_with fail
 go_ret3
 exact ⟨rfl,hw⟩
end Go.Proofs.whole
namespace Go.Proofs.power
open Go Go.RowKit Go.SW Go.Num Go.Mem Go.Proofs Go.Dec Go.fF Go.Proofs.whole
theorem Uk {a b:Nat}:((⟨(Lib.itoa (a:Int)).toArray⟩:ByteArray).toList == (⟨(Lib.itoa (b:Int)).toArray⟩:ByteArray).toList)=decide (a=b):=by
 rw [ByteArray.toList_eq,ByteArray.toList_eq]
 show (Lib.itoa (a:Int) == Lib.itoa (b:Int))=_
 by_cases h:a=b
 ·subst h;simp
 ·rw [decide_eq_false h];refine beq_eq_false_iff_ne.2 fun e=>h ?_;have:=yJ e;omega
theorem yB (a k:Nat) (ha:jd a=true) (hk:1≤k) (k12:k≤12) (w:World) (ht:iR.Pow w) :
  Calls Tryz.prog 157 #[bL (a:Int),.int .i64 (k:Int)] w (fun e w'=>e= .returned (.tuple #[bL (dQ k a:Nat),.bool (decide (dQ k a^k=a)),.int .i64 0])∧Below w.heap.size w w'):=by
 have hle:=(jZ hk a).1;have hro:jd (dQ k a)=true:=qz ha (oO hk);have HR:=zh (fun W hp=>zB a k ha hk k12 W hp);have Sr:=zh (fun W hp=>xU (dQ k a) k hro zo W hp);rw [tZ (qz ha hle)] at Sr;have he:((⟨(Lib.itoa ((dQ k a^k:Nat):Int)).toArray⟩:ByteArray).toList == (⟨(Lib.itoa (a:Int)).toArray⟩:ByteArray).toList)=decide (dQ k a^k=a):=Uk;have HP:=zh ht;clear hle hro ha ht;generalize decide (dQ k a^k=a)=ex at *;generalize dQ k a^k=rp at *;generalize dQ k a=r at *;unfold bL at *;generalize (⟨(Lib.itoa (a:Int)).toArray⟩:ByteArray)=ta at *;generalize (⟨(Lib.itoa (rp:Int)).toArray⟩:ByteArray)=tp at *;generalize (⟨(Lib.itoa (r:Int)).toArray⟩:ByteArray)=tr at *;go_enter Tryz.func157,Tryz.ntmps157
 go_wp2_with fail
 refine (HR.out _ HP.out).mono ?_;rintro e w1 ⟨rfl,hb1⟩;have HB1:=zh hb1;clear hb1;go_wp2_with fail
 refine (Sr.out _ (HP.out.later HB1.out)).mono ?_;rintro e w2 ⟨rfl,hb2⟩;have hw:=Bt HB1.out hb2;go_wp2_with fail
 go_ret3
 exact ⟨by rw [← he];rfl,hw⟩
theorem Zx (c:Nat):Lib.itoa ((10^c:Nat):Int)=49::Lib.repeatL [48] c:=by
 have h:=Cj c 1 0 zo (Nat.pow_pos zo);rw [Nat.one_mul,Nat.add_zero,gH (u:=1) zo,Dk] at h;have hr:=Lib.repeatL_replicate 48 1 c;rw [Nat.mul_one] at hr;rw [show ([48]:List UInt8)=List.replicate 1 48 from rfl,hr];exact h
theorem rH (c:Nat) (hc:c≤1000) (w:World) :
  Calls Tryz.prog 290 #[.int .i64 (c:Int)] w (fun e w'=>e= .returned (bL (10^c:Nat))∧Below w.heap.size w w'):=by
 have H:=zh (fun W=>Tryz.strings_Repeat ⟨#[48]⟩ c W zo (by rw [show (⟨#[48]⟩:ByteArray).size=1 from rfl];omega))
 have e:(⟨(Lib.itoa ((10^c:Nat):Int)).toArray⟩:ByteArray)=(⟨#[49]⟩:ByteArray)++⟨(Lib.repeatL [48] c).toArray⟩:=by
  rw [Zx];apply ByteArray.ext
  simp
 unfold bL;rw [e];clear e
 have hs:(⟨(Lib.repeatL [48] c).toArray⟩:ByteArray).size≤1000:=by
  show (Lib.repeatL [48] c).length≤1000
  rw [Lib.repeatL_length];simp
  omega
 generalize (⟨(Lib.repeatL [48] c).toArray⟩:ByteArray)=t at *;go_enter Tryz.func290,Tryz.ntmps290
 go_wp2_with fail
 refine (H.out _).mono ?_;rintro e w1 ⟨rfl,hb1⟩;go_wp2_with fail
 go_ret
 exact ⟨rfl,hb1⟩
def Ag (n:Nat) (up:Bool):Int × Int:=if n≤1000000000000000000 then ((n:Int)+(if up then 1 else 0),0) else (0,6)
theorem xG (n:Nat) (up:Bool) (hn:jd n=true) (w:World) (he:Er w) :
  Calls Tryz.prog 158 #[bL (n:Int),.bool up] w (fun e w'=>e= .returned (.tuple #[.int .i64 (Ag n up).1,.int .i64 (Ag n up).2])∧Below w.heap.size w w'):=by
 have H:=zh (fun W h=>aD7 n hn W h);have HE:=zh he;clear hn he;unfold bL Ic at *;generalize (⟨(Lib.itoa (n:Int)).toArray⟩:ByteArray)=t at *;unfold Ag
 by_cases h1:n<9223372036854775808
 ·simp only [if_pos h1] at H
  by_cases h2:n≤1000000000000000000
  ·have g:decide ((1000000000000000000:Int)<(n:Int))=false:=by simp;omega
   simp only [if_pos h2];cases up
   all_goals
    go_enter Tryz.func158,Tryz.ntmps158
    go_wp2_with fail
    refine (H.out _ HE.out).mono ?_;rintro e w1 ⟨rfl,hb1⟩;go_wp2_with fail
    go_ret2
    exact ⟨by simp,hb1⟩
  ·have g:decide ((1000000000000000000:Int)<(n:Int))=true:=by simp;omega
   simp only [if_neg h2];go_enter Tryz.func158,Tryz.ntmps158
   go_wp2_with fail
   refine (H.out _ HE.out).mono ?_;rintro e w1 ⟨rfl,hb1⟩;go_wp2_with fail
   go_ret2
   exact ⟨rfl,hb1⟩
 ·simp only [if_neg h1] at H;have h2:¬ n≤1000000000000000000:=by omega
  simp only [if_neg h2];go_enter Tryz.func158,Tryz.ntmps158
  go_wp2_with fail
  refine (H.out _ HE.out).mono ?_;rintro e w1 ⟨rfl,hb1⟩;go_wp2_with fail
  go_ret2
  exact ⟨rfl,hb1⟩
theorem Yo {c k:Nat} (h:c<k):10^c<ig k:=by
 unfold ig;exact Nat.pow_lt_pow_right zo h
theorem Uc {c:Nat} (h:c<600):jd (10^c)=true:=by
 unfold jd;exact decide_eq_true (Yo h)
theorem yF {n:Nat}:jd n=true↔n<10^600:=by
 unfold jd ig;exact decide_eq_true_iff
theorem zero_eq (b:Nat):((⟨(Lib.itoa (b:Int)).toArray⟩:ByteArray).toList == [48])=decide (b=0):=by
 have:= @Uk b 0
 have e:(⟨(Lib.itoa ((0:Nat):Int)).toArray⟩:ByteArray).toList=[48]:=by
  rw [ByteArray.toList_eq]
  show Lib.itoa ((0:Nat):Int)=[48]
  decide+kernel
 rw [e] at this;exact this
theorem Ky {n p q:Nat} {up:Bool} (h:¬ rT n p q≤10^18):yU n p q up=(0,6):=by
 unfold yU;rw [if_neg h]
theorem Np {n p q:Nat} {up:Bool}:Ag (rT n p q) (up&& !(OY n p q))=yU n p q up:=by
 by_cases h:rT n p q≤10^18
 ·rw [am8 h];unfold Ag;rw [if_pos h]
 ·rw [Ky h];unfold Ag;rw [if_neg h]
theorem Rc (n p q:Nat) (up:Bool) (hn:n≤10^18) (p1:1≤p) (p36:p≤36) (q1:1≤q) (Lr:q≤12) (w:World) (ht:iR.Pow w) (he:Er w) :
  Calls Tryz.prog 253 #[.agg #[.int .i64 (p:Int),.int .i64 (q:Int)],.int .i64 (n:Int),.bool up] w (fun e w'=>e= .returned (.tuple #[.int .i64 (yU n p q up).1,.int .i64 (yU n p q up).2])∧Below w.heap.size w w'):=by
 have hn0:jd n=true:=yF.2 (Nat.lt_of_le_of_lt hn (by decide+kernel))
 have h63:(n:Int)≤9223372036854775807:=by
  have:(10:Nat)^18=1000000000000000000:=by decide
  omega
 have HO:=zh (fun W h=>AU (n:Int) zo h63 W h);have Sr:=zh (fun W h=>xU n p hn0 zo W h);have HP:=zh ht;have HE:=zh he;clear ht he h63
 by_cases h1:jd (n^p)=true
 ·rw [tZ h1] at Sr
  by_cases hpq:p≤q
  ·have g:decide ((p:Int)≤(q:Int))=true:=by simp;omega
   have e12:(12:Int)*((q:Int) - (p:Int))=((12*(q - p):Nat):Int):=by omega
   have h12:12*(q - p)≤132:=by omega
   have HT:=zh (fun W=>rH (12*(q - p)) zo W);have HM:=zh (fun W h=>qJ (n^p) (10^(12*(q - p))) h1 (Uc zo) W h);have ea:=MJ (n:=n) hpq;rw [← ea] at HM;have ex:OY n p q=_:=av6 hpq
   by_cases h2:jd (iV n p q)=true
   ·rw [tZ h2] at HM;have HR:=zh (fun W h=>yB (iV n p q) q h2 q1 Lr W h);have HI:=zh (fun W h=>xG (rT n p q) (up&& !(OY n p q)) (qz h2 (oO q1)) W h);rw [Np] at HI
    change Hid (∀ (W:World),iR.Pow W→Calls _ _ _ _ (fun e w'=>e= .returned (.tuple #[bL ((rT n p q:Nat):Int),.bool (decide (rT n p q^q=iV n p q)),.int .i64 0])∧_)) at HR
    rw [← ex] at HR;clear ex ea h2 h1 hn0;obtain ⟨v,Ev⟩:∃ v,yU n p q up=v:=⟨_,rfl⟩;rw [Ev] at HI ⊢;obtain ⟨v1,v2⟩:=v;clear Ev;simp only at HI ⊢;generalize 10^(12*(q - p))=t12 at *;generalize 12*(q - p)=c12 at *;generalize OY n p q=ex at *;generalize rT n p q=r at *;generalize iV n p q=a at *;generalize n^p=np at *;clear hn;unfold bL at *;generalize (⟨(Lib.itoa (n:Int)).toArray⟩:ByteArray)=tn at *;generalize (⟨(Lib.itoa (np:Int)).toArray⟩:ByteArray)=tnp at *;generalize (⟨(Lib.itoa (t12:Int)).toArray⟩:ByteArray)=aJ3 at *;generalize (⟨(Lib.itoa (a:Int)).toArray⟩:ByteArray)=ta at *;generalize (⟨(Lib.itoa (r:Int)).toArray⟩:ByteArray)=tr at *;go_enter Tryz.func253,Tryz.ntmps253
    go_wp2_with fail
    obtain ⟨wx,EW,hz,X⟩:=wO w #[.int .i64 (p:Int),.int .i64 (q:Int)] 252;rw [EW];clear EW;have HB1:=zh hz;clear hz;obtain ⟨bx,eb⟩:∃ y,w.heap.size=y:=⟨_,rfl⟩;rw [eb] at X ⊢;obtain ⟨cX,lX⟩:=X.cl;refine aF [(.pure,0),(.pure,2),(.pure,3),(.read,4),(.ext,1),(.ext,5),(.pure,6),(.pure,7),(.pure,8),(.fin,9),(.fin,10)] zk zk zR zP ?_;refine zW ?_;refine aH rfl rfl (fun we hbe J hJ=>?_);go_simp;have h1:Below wx.heap.size wx we:=aD;refine (HO.out _ (HP.out.later (Bt HB1.out h1))).mono ?_;rintro e w1 ⟨rfl,hb1⟩;refine hJ _ _ hb1 ?_;clear hJ J;have h2:=Bt h1 hb1;clear h1 hbe hb1;refine aH rfl rfl (fun we hbe J hJ=>?_);go_simp;have h3:Below w1.heap.size w1 we:=aD;refine (Sr.out _ (HP.out.later (Bt HB1.out (Bt h2 h3)))).mono ?_;rintro e w2 ⟨rfl,hb2⟩;refine hJ _ _ hb2 ?_;clear hJ J;have h4:=Bt h2 (Bt h3 hb2);clear h3 h2 hbe hb2;refine zV ?_
    refine aU [_,_] rfl (fun wf hbf=>?_);have h5:Below wx.heap.size wx wf:=Bt h4 aD;replace X:=X.bl h5;replace HB1:=zh (Bt HB1.out h5);clear h5 h4 hbf cX lX;obtain ⟨cX,lX⟩:=X.cl;go_wp2_with fail
    try rw [e12]
    refine (HT.out _).mono ?_;rintro e w3 ⟨rfl,hb3⟩;replace HB1:=zh (Bt HB1.out hb3);replace X:=X.bl hb3;clear hb3 cX lX;obtain ⟨cX,lX⟩:=X.cl;go_wp2_with fail
    refine (HM.out _ (HP.out.later HB1.out)).mono ?_;rintro e w4 ⟨rfl,hb4⟩;replace HB1:=zh (Bt HB1.out hb4);replace X:=X.bl hb4;clear hb4 cX lX;obtain ⟨cX,lX⟩:=X.cl;go_wp2_with fail
    refine (HR.out _ (HP.out.later HB1.out)).mono ?_;rintro e w5 ⟨rfl,hb5⟩;replace HB1:=zh (Bt HB1.out hb5);clear hb5 X cX lX;cases up<;>cases ex
    all_goals
     go_wp2_with fail
     refine (HI.out _ (HE.out.later HB1.out)).mono ?_;rintro e w6 ⟨rfl,hb6⟩;have hw:=Bt HB1.out hb6;go_wp2_with fail
     go_ret2
     exact ⟨rfl,hw⟩
   ·have hno:¬ rT n p q≤10^18:=Nat.not_le.2 (ac9 q1 Lr (Nat.not_lt.1 fun h=>h2 (yF.2 h)));rw [Ky hno];rw [show BS ((iV n p q:Nat):Int)= .tuple #[.string ⟨#[]⟩,.int .i64 6] from by unfold BS;rw [Int.natAbs_natCast,if_neg h2]] at HM;clear ex ea h2 h1 hn0 hno;generalize 10^(12*(q - p))=t12 at *;generalize 12*(q - p)=c12 at *;generalize n^p=np at *;clear hn;unfold bL at *;generalize (⟨(Lib.itoa (n:Int)).toArray⟩:ByteArray)=tn at *;generalize (⟨(Lib.itoa (np:Int)).toArray⟩:ByteArray)=tnp at *;generalize (⟨(Lib.itoa (t12:Int)).toArray⟩:ByteArray)=aJ3 at *;go_enter Tryz.func253,Tryz.ntmps253
    go_wp2_with fail
    obtain ⟨wx,EW,hz,X⟩:=wO w #[.int .i64 (p:Int),.int .i64 (q:Int)] 252;rw [EW];clear EW;have HB1:=zh hz;clear hz;obtain ⟨bx,eb⟩:∃ y,w.heap.size=y:=⟨_,rfl⟩;rw [eb] at X ⊢;obtain ⟨cX,lX⟩:=X.cl;refine aF [(.pure,0),(.pure,2),(.pure,3),(.read,4),(.ext,1),(.ext,5),(.pure,6),(.pure,7),(.pure,8),(.fin,9),(.fin,10)] zk zk zR zP ?_;refine zW ?_;refine aH rfl rfl (fun we hbe J hJ=>?_);go_simp;have h1:Below wx.heap.size wx we:=aD;refine (HO.out _ (HP.out.later (Bt HB1.out h1))).mono ?_;rintro e w1 ⟨rfl,hb1⟩;refine hJ _ _ hb1 ?_;clear hJ J;have h2:=Bt h1 hb1;clear h1 hbe hb1;refine aH rfl rfl (fun we hbe J hJ=>?_);go_simp;have h3:Below w1.heap.size w1 we:=aD;refine (Sr.out _ (HP.out.later (Bt HB1.out (Bt h2 h3)))).mono ?_;rintro e w2 ⟨rfl,hb2⟩;refine hJ _ _ hb2 ?_;clear hJ J;have h4:=Bt h2 (Bt h3 hb2);clear h3 h2 hbe hb2;refine zV ?_
    refine aU [_,_] rfl (fun wf hbf=>?_);have h5:Below wx.heap.size wx wf:=Bt h4 aD;replace X:=X.bl h5;replace HB1:=zh (Bt HB1.out h5);clear h5 h4 hbf cX lX;obtain ⟨cX,lX⟩:=X.cl;go_wp2_with fail
    try rw [e12]
    refine (HT.out _).mono ?_;rintro e w3 ⟨rfl,hb3⟩;replace HB1:=zh (Bt HB1.out hb3);replace X:=X.bl hb3;clear hb3 cX lX;obtain ⟨cX,lX⟩:=X.cl;go_wp2_with fail
    refine (HM.out _ (HP.out.later HB1.out)).mono ?_;rintro e w4 ⟨rfl,hb4⟩;have hw:=Bt HB1.out hb4;go_wp2_with fail
    go_ret2
    exact ⟨rfl,hw⟩
  ·have g:decide ((p:Int)≤(q:Int))=false:=by simp;omega
   have e12:(12:Int)*((p:Int) - (q:Int))=((12*(p - q):Nat):Int):=by omega
   have h12:12*(p - q)≤420:=by omega
   have HT:=zh (fun W=>rH (12*(p - q)) zo W);have HM:=zh (fun W h=>nJ (n^p) (10^(12*(p - q))) h1 (Uc zo) (nP _) W h);have ea:=MK (n:=n) (p:=p) (q:=q) zo;rw [← ea] at HM;have ex:OY n p q=_:=av7 q1 zo
   have h2:jd (iV n p q)=true:=by
    rw [ea];exact qz h1 (Nat.div_le_self _ _)
   ·have HR:=zh (fun W h=>yB (iV n p q) q h2 q1 Lr W h);have HI:=zh (fun W h=>xG (rT n p q) (up&& !(OY n p q)) (qz h2 (oO q1)) W h);rw [Np] at HI
    change Hid (∀ (W:World),iR.Pow W→Calls _ _ _ _ (fun e w'=>e= .returned (.tuple #[bL ((rT n p q:Nat):Int),.bool (decide (rT n p q^q=iV n p q)),.int .i64 0])∧_)) at HR
    rw [ex] at HI;clear ex ea h2 h1 hn0;obtain ⟨v,Ev⟩:∃ v,yU n p q up=v:=⟨_,rfl⟩;rw [Ev] at HI ⊢;obtain ⟨v1,v2⟩:=v;clear Ev;simp only at HI ⊢;have hz:=zero_eq (n^p%10^(12*(p - q)));rw [← hz] at HI;clear hz;generalize n^p%10^(12*(p - q))=rm at *;generalize 10^(12*(p - q))=t12 at *;generalize 12*(p - q)=c12 at *;generalize decide (rT n p q^q=iV n p q)=ex at *;generalize rT n p q=r at *;generalize iV n p q=a at *;generalize n^p=np at *;clear hn;unfold bL at *;generalize (⟨(Lib.itoa (n:Int)).toArray⟩:ByteArray)=tn at *;generalize (⟨(Lib.itoa (np:Int)).toArray⟩:ByteArray)=tnp at *;generalize (⟨(Lib.itoa (t12:Int)).toArray⟩:ByteArray)=aJ3 at *;generalize (⟨(Lib.itoa (a:Int)).toArray⟩:ByteArray)=ta at *;generalize (⟨(Lib.itoa (r:Int)).toArray⟩:ByteArray)=tr at *;generalize (⟨(Lib.itoa (rm:Int)).toArray⟩:ByteArray)=tm at *;go_enter Tryz.func253,Tryz.ntmps253
    go_wp2_with fail
    obtain ⟨wx,EW,hz,X⟩:=wO w #[.int .i64 (p:Int),.int .i64 (q:Int)] 252;rw [EW];clear EW;have HB1:=zh hz;clear hz;obtain ⟨bx,eb⟩:∃ y,w.heap.size=y:=⟨_,rfl⟩;rw [eb] at X ⊢;obtain ⟨cX,lX⟩:=X.cl;refine aF [(.pure,0),(.pure,2),(.pure,3),(.read,4),(.ext,1),(.ext,5),(.pure,6),(.pure,7),(.pure,8),(.fin,9),(.fin,10)] zk zk zR zP ?_;refine zW ?_;refine aH rfl rfl (fun we hbe J hJ=>?_);go_simp;have h1:Below wx.heap.size wx we:=aD;refine (HO.out _ (HP.out.later (Bt HB1.out h1))).mono ?_;rintro e w1 ⟨rfl,hb1⟩;refine hJ _ _ hb1 ?_;clear hJ J;have h2:=Bt h1 hb1;clear h1 hbe hb1;refine aH rfl rfl (fun we hbe J hJ=>?_);go_simp;have h3:Below w1.heap.size w1 we:=aD;refine (Sr.out _ (HP.out.later (Bt HB1.out (Bt h2 h3)))).mono ?_;rintro e w2 ⟨rfl,hb2⟩;refine hJ _ _ hb2 ?_;clear hJ J;have h4:=Bt h2 (Bt h3 hb2);clear h3 h2 hbe hb2;refine zV ?_
    refine aU [_,_] rfl (fun wf hbf=>?_);have h5:Below wx.heap.size wx wf:=Bt h4 aD;replace X:=X.bl h5;replace HB1:=zh (Bt HB1.out h5);clear h5 h4 hbf cX lX;obtain ⟨cX,lX⟩:=X.cl;go_wp2_with fail
    try rw [e12]
    refine (HT.out _).mono ?_;rintro e w3 ⟨rfl,hb3⟩;replace HB1:=zh (Bt HB1.out hb3);replace X:=X.bl hb3;clear hb3 cX lX;obtain ⟨cX,lX⟩:=X.cl;go_wp2_with fail
    refine (HM.out _ (HP.out.later HB1.out)).mono ?_;rintro e w4 ⟨rfl,hb4⟩;replace HB1:=zh (Bt HB1.out hb4);replace X:=X.bl hb4;clear hb4 cX lX;obtain ⟨cX,lX⟩:=X.cl;go_wp2_with fail
    refine (HR.out _ (HP.out.later HB1.out)).mono ?_;rintro e w5 ⟨rfl,hb5⟩;replace HB1:=zh (Bt HB1.out hb5);clear hb5 X cX lX;cases hz:(tm.toList == [48])<;>rw [hz] at HI<;>cases up<;>cases ex
    all_goals
     go_wp2_with fail
     refine (HI.out _ (HE.out.later HB1.out)).mono ?_;rintro e w6 ⟨rfl,hb6⟩;have hw:=Bt HB1.out hb6;go_wp2_with fail
     go_ret2
     exact ⟨rfl,hw⟩
 ·have hno:¬ rT n p q≤10^18:=Nat.not_le.2 (ai6 q1 p36 Lr (Nat.not_lt.1 fun h=>h1 (yF.2 h)));rw [Ky hno];rw [show BS ((n^p:Nat):Int)= .tuple #[.string ⟨#[]⟩,.int .i64 6] from by unfold BS;rw [Int.natAbs_natCast,if_neg h1]] at Sr;clear h1 hn0 hno hn;unfold bL at *;generalize (⟨(Lib.itoa (n:Int)).toArray⟩:ByteArray)=tn at *;go_enter Tryz.func253,Tryz.ntmps253
  go_wp2_with fail
  obtain ⟨wx,EW,hz,X⟩:=wO w #[.int .i64 (p:Int),.int .i64 (q:Int)] 252;rw [EW];clear EW;have HB1:=zh hz;clear hz;obtain ⟨bx,eb⟩:∃ y,w.heap.size=y:=⟨_,rfl⟩;rw [eb] at X ⊢;obtain ⟨cX,lX⟩:=X.cl;refine aF [(.pure,0),(.pure,2),(.pure,3),(.read,4),(.ext,1),(.ext,5),(.pure,6),(.pure,7),(.pure,8),(.fin,9),(.fin,10)] zk zk zR zP ?_;refine zW ?_;refine aH rfl rfl (fun we hbe J hJ=>?_);go_simp;have h1:Below wx.heap.size wx we:=aD;refine (HO.out _ (HP.out.later (Bt HB1.out h1))).mono ?_;rintro e w1 ⟨rfl,hb1⟩;refine hJ _ _ hb1 ?_;clear hJ J;have h2:=Bt h1 hb1;clear h1 hbe hb1;refine aH rfl rfl (fun we hbe J hJ=>?_);go_simp;have h3:Below w1.heap.size w1 we:=aD;refine (Sr.out _ (HP.out.later (Bt HB1.out (Bt h2 h3)))).mono ?_;rintro e w2 ⟨rfl,hb2⟩;refine hJ _ _ hb2 ?_;clear hJ J;have h4:=Bt h2 (Bt h3 hb2);clear h3 h2 hbe hb2;refine zV ?_
  refine aU [_,_] rfl (fun wf hbf=>?_);have h5:Below wx.heap.size wx wf:=Bt h4 aD;replace X:=X.bl h5;replace HB1:=zh (Bt HB1.out h5);clear h5 h4 hbf cX lX;obtain ⟨cX,lX⟩:=X.cl;have hw:=HB1.out;go_wp2_with fail
  go_ret2
  exact ⟨rfl,hw⟩
end Go.Proofs.power
namespace Go.Proofs.power
open Go Go.RowKit Go.SW Go.Num Go.Mem Go.Proofs Go.Dec Go.fF Go.Proofs.whole Go.Proofs.aW
def JW (a b:Int × Int):(Int × Int) × Int:=if a.2≠0 then ((0,0),a.2) else if b.2≠0 then ((0,0),b.2) else if dY a.1 b.1 then ((a.1,b.1),0) else ((0,0),6)
theorem Ub (a b:Int × Int):Wj a b=aY (JW a b):=by
 unfold Wj JW aY
 by_cases h1:a.2=0<;>by_cases h2:b.2=0<;>cases h3:dY a.1 b.1<;>simp [h1,h2]
def PX (lo hi p q:Int):(Int × Int) × Int:=if dY lo hi=false then ((0,0),30) else if eok p q=false∨lo<0 then ((0,0),2) else JW (yU lo.toNat p.toNat q.toNat false) (yU hi.toNat p.toNat q.toNat true)
theorem Gr (lo hi p q:Int) (w:World) (ht:iR.Pow w) (he:Er w) :
  Calls Tryz.prog 199 #[.agg #[.int .i64 lo,.int .i64 hi],.int .i64 p,.int .i64 q] w (fun e w'=>e= .returned (aY (PX lo hi p q))∧Below w.heap.size w w'):=by
 have HP:=zh ht;have HE:=zh he;have HC:=zh (fun W=>gD lo hi W);have HV:=zh (fun W=>mO p q W);clear ht he;generalize hz0:PX lo hi p q=z at *;unfold PX at hz0;obtain ⟨⟨z1,z2⟩,z3⟩:=z;unfold aY;simp only;go_enter Tryz.func199,Tryz.ntmps199
 go_wp2_with fail
 obtain ⟨wx,EW,hz,X,R⟩:=Gj w #[.int .i64 lo,.int .i64 hi] 40 #[.int .i64 0,.int .i64 0] 40;rw [EW];clear EW;have HB:=zh hz;clear hz;obtain ⟨bx,eb⟩:∃ y,w.heap.size=y:=⟨_,rfl⟩;rw [eb] at X R ⊢;refine (HC.out _).mono ?_;rintro e w1 ⟨rfl,hb1⟩;replace X:=X.bl hb1;replace R:=R.bl hb1;replace HB:=zh (Bt HB.out hb1);clear hb1 HC;obtain ⟨cX,lX⟩:=X.cl;cases hk:dY lo hi
 ·rw [hk,if_pos rfl] at hz0;cases hz0
  have hx:=R.out;have cx:=hx.cell;have fx:=hx.free;have lx:=hx.lt;have hw:=HB.out;go_wp2_with fail
  refine aM rfl rfl aJ Tryz.underlying40 rfl zk ?_;exact ⟨rfl,aD⟩
 ·rw [hk,if_neg zi] at hz0;go_wp2_with fail
  obtain ⟨wy,EW,hz,Y⟩:=wO w1 #[.int .i64 p,.int .i64 q] 252;rw [EW];clear EW;replace HB:=zh (Bt HB.out hz);replace X:=X.bl hz;replace R:=R.bl hz;clear hz cX lX;obtain ⟨by',eb⟩:∃ y,w1.heap.size=y:=⟨_,rfl⟩;rw [eb] at Y ⊢;refine (HV.out _).mono ?_;rintro e w2 ⟨rfl,hb2⟩;replace HB:=zh (Bt HB.out hb2);replace X:=X.bl hb2;replace R:=R.bl hb2;replace Y:=Y.bl hb2;clear hb2 HV;obtain ⟨cX,lX⟩:=X.cl;obtain ⟨cY,lY⟩:=Y.cl;cases hv:eok p q
  ·rw [hv,if_pos (Or.inl rfl)] at hz0;cases hz0
   have hx:=R.out;have cx:=hx.cell;have fx:=hx.free;have lx:=hx.lt;have hw:=HB.out;go_wp2_with fail
   refine aM rfl rfl aJ Tryz.underlying40 rfl zk ?_;exact ⟨rfl,aD⟩
  ·by_cases h0:lo<0
   ·have g:decide (lo<0)=true:=decide_eq_true h0;rw [if_pos (Or.inr h0)] at hz0;cases hz0
    have hx:=R.out;have cx:=hx.cell;have fx:=hx.free;have lx:=hx.lt;have hw:=HB.out;go_wp2_with fail
    refine aM rfl rfl aJ Tryz.underlying40 rfl zk ?_;exact ⟨rfl,aD⟩
   ·have g:decide (lo<0)=false:=decide_eq_false h0;rw [hv,if_neg (by simp [h0])] at hz0;obtain ⟨hp1,aU5,hq1,hq12⟩:1≤p∧p≤36∧1≤q∧q≤12:=by simpa [eok] using hv
    obtain ⟨hk1,hk2,hk3⟩: -1000000000000000000≤lo∧lo≤hi∧hi≤1000000000000000000:=by simpa [dY] using hk
    have h18:(10:Nat)^18=1000000000000000000:=by decide
    have E1:=fun W (h:Below w2.heap.size w2 W)=>Rc lo.toNat p.toNat q.toNat false (by rw [h18];omega) zo zo zo zo W (HP.out.later (Bt HB.out h)) (HE.out.later (Bt HB.out h));have E2:=fun W (h:Below w2.heap.size w2 W)=>Rc hi.toNat p.toNat q.toNat true (by rw [h18];omega) zo zo zo zo W (HP.out.later (Bt HB.out h)) (HE.out.later (Bt HB.out h));simp only [Int.toNat_of_nonneg (show 0≤lo by omega),Int.toNat_of_nonneg (show 0≤hi by omega),Int.toNat_of_nonneg (show 0≤p by omega),Int.toNat_of_nonneg (show 0≤q by omega)] at E1 E2;have HO:=zh (Qg lo hi (.func (.func 253) #[.agg #[.int .i64 p,.int .i64 q]] #[]) 253 #[.agg #[.int .i64 p,.int .i64 q]] #[] _ _ w2 rfl E1 E2 rfl (fun args W=>by rfl));rw [Ub,hz0] at HO;unfold aY at HO;clear hz0 E1 E2 h18 hp1 aU5 hq1 hq12 hk1 hk2 hk3 hv h0 hk;go_wp2_with fail
    refine HO.out.mono ?_;rintro e w3 ⟨rfl,hb3⟩;replace HB:=zh (Bt HB.out hb3);replace R:=R.bl hb3;clear hb3 HO X Y cX lX cY lY;have hx:=R.out;have cx:=hx.cell;have fx:=hx.free;have lx:=hx.lt;have hw:=HB.out;go_wp2_with fail
    refine aM rfl rfl aJ Tryz.underlying40 rfl zk ?_;exact ⟨rfl,aD⟩
theorem zB (lo hi q:Int) (w:World) (ht:iR.Pow w) (he:Er w) :
  Calls Tryz.prog 124 #[.agg #[.int .i64 lo,.int .i64 hi],.int .i64 q] w (fun e w'=>e= .returned (aY (PX lo hi 1 q))∧Below w.heap.size w w'):=by
 have HP:=zh ht;have HE:=zh he;have H:=zh (fun W h1 h2=>Gr lo hi 1 q W h1 h2);clear ht he;generalize PX lo hi 1 q=z at *;obtain ⟨⟨z1,z2⟩,z3⟩:=z;unfold aY at *;simp only at *;go_enter Tryz.func124,Tryz.ntmps124
 go_wp2_with fail
 obtain ⟨wx,EW,hz,X,R⟩:=Gj w #[.int .i64 lo,.int .i64 hi] 40 #[.int .i64 0,.int .i64 0] 40;rw [EW];clear EW;have HB:=zh hz;clear hz;obtain ⟨bx,eb⟩:∃ y,w.heap.size=y:=⟨_,rfl⟩;rw [eb] at X R ⊢;refine (H.out _ (HP.out.later HB.out) (HE.out.later HB.out)).mono ?_;rintro e w1 ⟨rfl,hb1⟩;replace R:=R.bl hb1;replace HB:=zh (Bt HB.out hb1);clear hb1 X;have hx:=R.out;have cx:=hx.cell;have fx:=hx.free;have lx:=hx.lt;have hw:=HB.out;go_wp2_with fail
 refine aM rfl rfl aJ Tryz.underlying40 rfl zk ?_;exact ⟨rfl,aD⟩
end Go.Proofs.power
namespace Go.Proofs.dA
open Go Go.RowKit Go.SW Go.Num Go.Mem Go.Proofs Go.Dec Go.fF
theorem Zg (x y:Value) (p q:Rat) (w:World) (hx:dZ w x p) (hy:dZ w y q) (kp:gZ 1000000 p) (kq:gZ 1000000 q) :
  Calls Tryz.prog 64 #[x,y] w (fun e w'=>∃ v,e= .returned v∧Below w.heap.size w w'∧dZ w' v (p*q)):=by
 obtain ⟨MW,lH,Om,pbH,mH,cbH,rfl,H,Hd⟩:=hx;replace H:=zh H;replace Hd:=zh Hd;obtain ⟨paG,lG,caG,pbG,mG,cbG,rfl,G,Gd⟩:=hy;replace G:=zh G;replace Gd:=zh Gd;have HP:=zh (Qq p q);have hp:=p.den_pos;have hq:=q.den_pos;have hg:0<p.num.natAbs.gcd q.den:=Nat.gcd_pos_of_pos_right _ hq;have hh:0<q.num.natAbs.gcd p.den:=Nat.gcd_pos_of_pos_right _ hp;obtain ⟨kp1,kp2⟩:=kp;obtain ⟨kq1,kq2⟩:=kq;obtain ⟨g,Eg⟩:∃ y:Nat,Hid (p.num.natAbs.gcd q.den=y):=⟨_,zh rfl⟩;rw [Eg.out] at hg HP;obtain ⟨h,Eh⟩:∃ y:Nat,Hid (q.num.natAbs.gcd p.den=y):=⟨_,zh rfl⟩;rw [Eh.out] at hh HP;have k1:= @jl p.num.natAbs g;have k2:= @jl p.den h;have k3:= @jl q.num.natAbs h;have k4:= @jl q.den g;obtain ⟨a,Ea⟩:∃ y:Nat,Hid (p.num.natAbs / g=y):=⟨_,zh rfl⟩;rw [Ea.out] at HP k1;obtain ⟨b,Eb⟩:∃ y:Nat,Hid (p.den / h=y):=⟨_,zh rfl⟩;rw [Eb.out] at HP k2;obtain ⟨c,Ec⟩:∃ y:Nat,Hid (q.num.natAbs / h=y):=⟨_,zh rfl⟩
 rw [Ec.out] at HP k3;obtain ⟨d,Ed⟩:∃ y:Nat,Hid (q.den / g=y):=⟨_,zh rfl⟩;rw [Ed.out] at HP k4;obtain ⟨s,Es⟩:∃ y:Nat,Hid (a*c=y):=⟨_,zh rfl⟩;rw [Es.out] at HP;obtain ⟨t,Et⟩:∃ y:Nat,Hid (b*d=y):=⟨_,zh rfl⟩;rw [Et.out] at HP;have HGp:=zh hg;have HHp:=zh hh;have Kpn:Hid (sz 1000000000 p.num.natAbs≤549755813888):=by unfold Hid;omega
 have Kqn:Hid (sz 1000000000 q.num.natAbs≤549755813888):=by unfold Hid;omega
 have Kpd:Hid (sz 1000000000 p.den≤549755813888):=by unfold Hid;omega
 have Kqd:Hid (sz 1000000000 q.den≤549755813888):=by unfold Hid;omega
 have Ka:Hid (sz 1000000000 a≤1099511627776):=by unfold Hid;omega
 have Kb:Hid (sz 1000000000 b≤1099511627776):=by unfold Hid;omega
 have Kc:Hid (sz 1000000000 c≤1099511627776):=by unfold Hid;omega
 have Kd:Hid (sz 1000000000 d≤1099511627776):=by unfold Hid;omega
 clear k1 k2 k3 k4 kp1 kp2 kq1 kq2 hg hh hp hq;go_enter Tryz.func64,Tryz.ntmps64
 go_wp2_with fail
 refine ((uQ _ _ p.num.natAbs q.den _ aI aI Kpn.out Kqd.out).mono (by rw [Eg.out];exact fun _ _ h=>h)).mono ?_;rintro e v1 ⟨v,rfl,hc1,hv⟩;obtain ⟨bf6,lMg,bk6,rfl⟩:=hv.slice;have Mg:=zh hv;clear hv;replace H:=zh (aQ.carry H.out aI hc1);replace Hd:=zh (aQ.carry Hd.out aI hc1);replace G:=zh (aQ.carry G.out aI hc1);replace Gd:=zh (aQ.carry Gd.out aI hc1);have BR:=ah.later (ah.at2 _ _ _ _ _) hc1;have bK:=BR.cell;have bJ:=BR.free;have B1:=ah.later (ah.alloc (ah.pF _ _ _ _) _) hc1;have cB1:=B1.cell;have vU:=B1.free;have B0:=ah.later (ah.alloc (ah.alloc (ah.new _ _ _) _) _) hc1;have cB0:=B0.cell;have jE:=B0.free;go_wp2_with fail
 refine ((uQ _ _ q.num.natAbs p.den _ aI aI Kqn.out Kpd.out).mono (by rw [Eh.out];exact fun _ _ h=>h)).mono ?_;rintro e v2 ⟨v,rfl,hc2,hv⟩;obtain ⟨bf5,lMh,bk5,rfl⟩:=hv.slice;have Mh:=zh hv;clear hv;replace H:=zh (aQ.later H.out hc2);replace Hd:=zh (aQ.later Hd.out hc2);replace G:=zh (aQ.later G.out hc2);replace Gd:=zh (aQ.later Gd.out hc2);replace Mg:=zh (aQ.later Mg.out hc2);replace BR:=ah.later (BR) hc2;replace bK:=BR.cell;replace bJ:=BR.free;replace B1:=ah.later (B1) hc2;replace cB1:=B1.cell;replace vU:=B1.free;replace B0:=ah.later (B0) hc2;replace cB0:=B0.cell;replace jE:=B0.free;go_wp2_with fail
 refine ((fK _ _ p.num.natAbs g _ aI aI HGp.out Kpn.out).mono (by rw [Ea.out];exact fun _ _ h=>h)).mono ?_;rintro e v3 ⟨v,vr,rfl,hc3,hv,oP⟩;obtain ⟨bg0,lMa,bl0,rfl⟩:=hv.slice;have Ma:=zh hv;clear hv;obtain ⟨bb4,bi0,bd0,rfl⟩:=oP.slice;have Mar:=zh oP;clear oP;replace Hd:=zh (aQ.later Hd.out hc3);replace G:=zh (aQ.later G.out hc3);replace Gd:=zh (aQ.later Gd.out hc3);replace Mg:=zh (aQ.later Mg.out hc3);replace Mh:=zh (aQ.later Mh.out hc3);replace BR:=ah.later (BR) hc3;replace bK:=BR.cell;replace bJ:=BR.free;replace B1:=ah.later (B1) hc3;replace cB1:=B1.cell;replace vU:=B1.free;replace B0:=ah.later (B0) hc3;replace cB0:=B0.cell;replace jE:=B0.free;go_wp2_with fail
 clear Mar H;refine ((fK _ _ p.den h _ aI aI HHp.out Kpd.out).mono (by rw [Eb.out];exact fun _ _ h=>h)).mono ?_;rintro e v4 ⟨v,vr,rfl,hc4,hv,oP⟩;obtain ⟨bf9,lMb,bk9,rfl⟩:=hv.slice;have Mb:=zh hv;clear hv;obtain ⟨ba9,bh9,bc9,rfl⟩:=oP.slice;have Mbr:=zh oP;clear oP;replace G:=zh (aQ.later G.out hc4);replace Gd:=zh (aQ.later Gd.out hc4);replace Mg:=zh (aQ.later Mg.out hc4);replace Mh:=zh (aQ.later Mh.out hc4);replace Ma:=zh (aQ.later Ma.out hc4);replace BR:=ah.later (BR) hc4;replace bK:=BR.cell;replace bJ:=BR.free;replace B1:=ah.later (B1) hc4;replace cB1:=B1.cell;replace vU:=B1.free;replace B0:=ah.later (B0) hc4;replace cB0:=B0.cell;replace jE:=B0.free;go_wp2_with fail
 clear Mbr Hd;refine ((fK _ _ q.num.natAbs h _ aI aI HHp.out Kqn.out).mono (by rw [Ec.out];exact fun _ _ h=>h)).mono ?_;rintro e v5 ⟨v,vr,rfl,nV,hv,oP⟩;obtain ⟨bf8,lMc,bk8,rfl⟩:=hv.slice;have Mc:=zh hv;clear hv;obtain ⟨ba8,bh8,bc8,rfl⟩:=oP.slice;have Mcr:=zh oP;clear oP;replace Gd:=zh (aQ.later Gd.out nV);replace Mg:=zh (aQ.later Mg.out nV);replace Ma:=zh (aQ.later Ma.out nV);replace Mb:=zh (aQ.later Mb.out nV);replace BR:=ah.later (BR) nV;replace bK:=BR.cell;replace bJ:=BR.free;replace B1:=ah.later (B1) nV;replace cB1:=B1.cell;replace vU:=B1.free;replace B0:=ah.later (B0) nV;replace cB0:=B0.cell;replace jE:=B0.free;go_wp2_with fail
 clear Mcr G;refine ((fK _ _ q.den g _ aI aI HGp.out Kqd.out).mono (by rw [Ed.out];exact fun _ _ h=>h)).mono ?_;rintro e v6 ⟨v,vr,rfl,hc6,hv,oP⟩;obtain ⟨bf7,lMd,bk7,rfl⟩:=hv.slice;have Md:=zh hv;clear hv;obtain ⟨ba7,bh7,bc7,rfl⟩:=oP.slice;have Mdr:=zh oP;clear oP;replace Ma:=zh (aQ.later Ma.out hc6);replace Mb:=zh (aQ.later Mb.out hc6);replace Mc:=zh (aQ.later Mc.out hc6);replace BR:=ah.later (BR) hc6;replace bK:=BR.cell;replace bJ:=BR.free;replace B1:=ah.later (B1) hc6;replace cB1:=B1.cell;replace vU:=B1.free;replace B0:=ah.later (B0) hc6;replace cB0:=B0.cell;replace jE:=B0.free;go_wp2_with fail
 clear Mdr Gd;refine aF [(.pure,0),(.pure,1),(.pure,3),(.pure,4),(.read,5),(.pure,6),(.pure,7),(.read,8),(.pure,9),(.pure,11),(.pure,12),(.ext,2),(.ext,10),(.ext,13),(.pure,14),(.fin,15)] zk zk zR zP ?_;refine zV ?_;refine aH rfl rfl (fun w7 iJ J hJ=>?_);go_simp;replace Ma:=zh (aQ.carry Ma.out aI iJ);replace Mb:=zh (aQ.carry Mb.out aI iJ);replace Mc:=zh (aQ.carry Mc.out aI iJ);replace Md:=zh (aQ.carry Md.out aI iJ);replace BR:=ah.later (ah.drew BR) iJ;replace bK:=BR.cell;replace bJ:=BR.free;refine ((iU _ _ a c _ aI aI Ka.out Kc.out).mono (by rw [Es.out];exact fun _ _ h=>h)).mono ?_;rintro e v7 ⟨v,rfl,Kn,hv⟩;obtain ⟨bf4,lMs,bk4,rfl⟩:=hv.slice;have Ms:=zh hv;clear hv;replace Ma:=zh (aQ.later Ma.out Kn);replace Mb:=zh (aQ.later Mb.out Kn);replace Mc:=zh (aQ.later Mc.out Kn);replace Md:=zh (aQ.later Md.out Kn)
 replace BR:=ah.later (BR) Kn;replace bK:=BR.cell;replace bJ:=BR.free;refine hJ _ _ Kn ?_;clear hJ J;refine aH rfl rfl (fun w8 qN J hJ=>?_);go_simp;replace Mb:=zh (aQ.later Mb.out qN);replace Md:=zh (aQ.later Md.out qN);replace Ms:=zh (aQ.later Ms.out qN);replace BR:=ah.later (BR) qN;replace bK:=BR.cell;replace bJ:=BR.free;refine (dJ _ s _ _ aI).mono ?_;rintro e v8 ⟨v,rfl,hc8,hv⟩;obtain ⟨bf2,lMv,bk0,rfl,Mv⟩:=hv;replace Mv:=zh Mv;replace Mb:=zh (aQ.later Mb.out hc8);replace Md:=zh (aQ.later Md.out hc8);replace Ms:=zh (aQ.later Ms.out hc8);replace BR:=ah.later (BR) hc8;replace bK:=BR.cell;replace bJ:=BR.free;refine hJ _ _ hc8 ?_;clear hJ J;refine aH rfl rfl (fun w9 tT J hJ=>?_);go_simp;replace Mb:=zh (aQ.later Mb.out tT);replace Md:=zh (aQ.later Md.out tT);replace Mv:=zh (aQ.later Mv.out tT)
 replace BR:=ah.later (BR) tT;replace bK:=BR.cell;replace bJ:=BR.free;refine ((iU _ _ b d _ aI aI Kb.out Kd.out).mono (by rw [Et.out];exact fun _ _ h=>h)).mono ?_;rintro e v9 ⟨v,rfl,QG,hv⟩;obtain ⟨bf3,lMt,bk3,rfl⟩:=hv.slice;have Mt:=zh hv;clear hv;replace Mb:=zh (aQ.later Mb.out QG);replace Md:=zh (aQ.later Md.out QG);replace Mv:=zh (aQ.later Mv.out QG);replace BR:=ah.later (BR) QG;replace bK:=BR.cell;replace bJ:=BR.free;refine hJ _ _ QG ?_;clear hJ J;refine zV ?_;refine aU [_] rfl (fun w14 az6=>?_);replace BR:=ah.later (BR) az6;replace bK:=BR.cell;replace bJ:=BR.free;go_wp2_with fail
 refine dH rfl rfl aJ Tryz.underlying108 rfl zk ?_;exact ⟨_,rfl,aD,dZ.mk (gT s (!(decide (p.num<0) == decide (q.num<0)))).natAbs t aI aI (by rw [HP.out.1]) HP.out.2.symm (by rw [HP.out.1])⟩
theorem xA (w:World) :
  Calls Tryz.prog 62 #[.agg #[.slice none 0 0,.bool false,.slice none 0 0],.int .i64 20] w (fun e w'=>e= .returned (.tuple #[.agg #[.string ⟨#[]⟩,.string ⟨#[]⟩],.int .i64 20])∧Below w.heap.size w w'):=by
 go_enter Tryz.func62,Tryz.ntmps62
 go_wp2_with fail
 refine aM rfl rfl aJ Tryz.underlying32 rfl zk ?_;exact ⟨rfl,aD⟩
theorem zY (v:Value) (q:Rat) (w:World) (h:dZ w v q) (k:gZ 1000000 q) (ht:iR.Pow w) :
  Calls Tryz.prog 62 #[v,.int .i64 0] w (fun e w'=>e= .returned (Fr.res (wr q))∧Below w.heap.size w w'):=by
 obtain ⟨MW,lH,Om,pbH,mH,cbH,rfl,H,Hd⟩:=h;replace H:=zh H;replace Hd:=zh Hd;have HT:=zh ht;have K:=zh k;clear ht k;obtain ⟨x,Ex⟩:∃ y:FrI,Hid (wr q=y):=⟨_,zh rfl⟩;rw [Ex.out];obtain ⟨⟨s,t⟩,e⟩:=x;rw [qx];go_enter Tryz.func62,Tryz.ntmps62
 go_wp2_with fail
 refine ((jO _ q _ (dZ.of aI aI) K.out (HT.out.later aD)).mono (by rw [Ex.out,qx];exact fun _ _ h=>h)).mono ?_;rintro e v1 ⟨rfl,hc1⟩;have BR:=ah.later (ah.pF _ _ _ _) hc1;have bK:=BR.cell;have bJ:=BR.free;have iL:=BR.lt;go_wp2_with fail
 refine aM rfl rfl aJ Tryz.underlying32 rfl zk ?_;exact ⟨rfl,aD⟩
theorem Xi (s t s' t':ByteArray) (w:World) (p q:Rat) (h:rd ⟨s,t⟩=some p) (k:rd ⟨s',t'⟩=some q) :
  Calls Tryz.prog 63 #[.agg #[.string s,.string t],.agg #[.string s',.string t'],.func (.func 64) #[] #[]] w (fun e w'=>∃ v,e= .returned (.tuple #[v,.int .i64 0])∧Below w.heap.size w w'∧dZ w' v (p*q)):=by
 have HR:=zh (fD h);have HS:=zh (fD k);have KP:=zh ((jr (mX h).2).mono (show 67≤1000000 by omega));have KQ:=zh ((jr (mX k).2).mono (show 67≤1000000 by omega));clear h k;obtain ⟨r,Er⟩:∃ y:Rat,Hid (p*q=y):=⟨_,zh rfl⟩;rw [Er.out];go_enter Tryz.func63,Tryz.ntmps63
 go_wp2_with fail
 refine (HR.out _).mono ?_;rintro e v1 ⟨v,rfl,hc1,hv⟩;obtain ⟨Qf,lHp,Rn,VN,mHp,Xa,rfl,Hp,wP⟩:=hv;replace Hp:=zh Hp;replace wP:=zh wP;have BR:=ah.later (ah.at2 _ _ _ _ _) hc1;have bK:=BR.cell;have bJ:=BR.free;have iL:=BR.lt;have B1:=ah.later (ah.alloc (ah.pF _ _ _ _) _) hc1;have cB1:=B1.cell;have vU:=B1.free;have lB1:=B1.lt;go_wp2_with fail
 refine (HS.out _).mono ?_;rintro e v2 ⟨v,rfl,hc2,hv⟩;obtain ⟨Bw,XZ,BM,He,mHq,Ig,rfl,Hq,tV⟩:=hv;replace Hq:=zh Hq;replace tV:=zh tV;replace Hp:=zh (aQ.carry Hp.out aI hc2);replace wP:=zh (aQ.carry wP.out aI hc2);replace X1:ah _ (v1.heap.size) _ _:=ah.later aJ hc2;(try simp only [List.setIfInBounds_toArray,List.set_cons_zero,List.set_cons_succ] at X1);replace jV:=X1.cell;replace lJ:=X1.free;replace jU:=X1.lt;replace BR:ah _ (w.heap.size+1+1) _ _:=ah.later aJ hc2;(try simp only [List.setIfInBounds_toArray,List.set_cons_zero,List.set_cons_succ] at BR);replace bK:=BR.cell;replace bJ:=BR.free;replace iL:=BR.lt;go_wp2_with fail
 refine ((Zg _ _ p q _ (dZ.of aI aI) (dZ.of aI aI) KP.out KQ.out).mono (by rw [Er.out];exact fun _ _ h=>h)).mono ?_;rintro e v3 ⟨v,rfl,hc3,hv⟩;obtain ⟨YS,lHr,ac4,av8,mHr,aB1,rfl,Hr,Sn⟩:=hv;replace Hr:=zh Hr;replace Sn:=zh Sn;replace BR:ah _ (w.heap.size+1+1) _ _:=ah.later aJ hc3;(try simp only [List.setIfInBounds_toArray,List.set_cons_zero,List.set_cons_succ] at BR);replace bK:=BR.cell;replace bJ:=BR.free;replace iL:=BR.lt;go_wp2_with fail
 refine aM rfl rfl aJ Tryz.underlying108 rfl zk ?_;exact ⟨_,rfl,aD,dZ.of aI aI⟩
theorem Ij (s t s' t':ByteArray) (w:World) (h:rd ⟨s,t⟩=none∨rd ⟨s',t'⟩=none) :
  Calls Tryz.prog 63 #[.agg #[.string s,.string t],.agg #[.string s',.string t'],.func (.func 64) #[] #[]] w (fun e w'=>e= .returned (.tuple #[.agg #[.slice none 0 0,.bool false,.slice none 0 0],.int .i64 20])∧Below w.heap.size w w'):=by
 cases h1:rd ⟨s,t⟩ with
 | none =>
  have HR:=zh (gu h1);cases k:rd ⟨s',t'⟩ with
  | none =>
   have HS:=zh (gu k);clear h k h1;go_enter Tryz.func63,Tryz.ntmps63
   go_wp2_with fail
   refine (HR.out _).mono ?_;rintro e v1 ⟨rfl,hc1⟩;have BR:=ah.later (ah.at2 _ _ _ _ _) hc1;have bK:=BR.cell;have bJ:=BR.free;have iL:=BR.lt;have B1:=ah.later (ah.alloc (ah.pF _ _ _ _) _) hc1;have cB1:=B1.cell;have vU:=B1.free;have lB1:=B1.lt;go_wp2_with fail
   refine (HS.out _).mono ?_;rintro e v2 ⟨rfl,hc2⟩;replace BR:ah _ (w.heap.size+1+1) _ _:=ah.later aJ hc2;replace bK:=BR.cell;replace bJ:=BR.free;replace iL:=BR.lt;have q1:w.heap.size+1<v2.heap.size:=by omega
   go_wp2_with fail
   refine aM rfl rfl aJ Tryz.underlying108 rfl zk ?_;exact ⟨rfl,aD⟩
  | some q =>
   have HS:=zh (fD k);clear h k h1;go_enter Tryz.func63,Tryz.ntmps63
   go_wp2_with fail
   refine (HR.out _).mono ?_;rintro e v1 ⟨rfl,hc1⟩;have BR:=ah.later (ah.at2 _ _ _ _ _) hc1;have bK:=BR.cell;have bJ:=BR.free;have iL:=BR.lt;have B1:=ah.later (ah.alloc (ah.pF _ _ _ _) _) hc1;have cB1:=B1.cell;have vU:=B1.free;have lB1:=B1.lt;go_wp2_with fail
   refine (HS.out _).mono ?_;rintro e v2 ⟨v,rfl,hc2,hv⟩;obtain ⟨Bw,XZ,BM,He,mHq,Ig,rfl,Hq,tV⟩:=hv;replace Hq:=zh Hq;replace tV:=zh tV;replace BR:ah _ (w.heap.size+1+1) _ _:=ah.later aJ hc2;replace bK:=BR.cell;replace bJ:=BR.free;replace iL:=BR.lt;have q1:w.heap.size+1<v2.heap.size:=by omega
   go_wp2_with fail
   refine aM rfl rfl aJ Tryz.underlying108 rfl zk ?_;exact ⟨rfl,aD⟩
 | some p =>
  have HR:=zh (fD h1);cases k:rd ⟨s',t'⟩ with
  | none =>
   have HS:=zh (gu k);clear h k h1;go_enter Tryz.func63,Tryz.ntmps63
   go_wp2_with fail
   refine (HR.out _).mono ?_;rintro e v1 ⟨v,rfl,hc1,hv⟩;obtain ⟨Qf,lHp,Rn,VN,mHp,Xa,rfl,Hp,wP⟩:=hv;replace Hp:=zh Hp;replace wP:=zh wP;have BR:=ah.later (ah.at2 _ _ _ _ _) hc1;have bK:=BR.cell;have bJ:=BR.free;have iL:=BR.lt;have B1:=ah.later (ah.alloc (ah.pF _ _ _ _) _) hc1;have cB1:=B1.cell;have vU:=B1.free;have lB1:=B1.lt;go_wp2_with fail
   refine (HS.out _).mono ?_;rintro e v2 ⟨rfl,hc2⟩;replace BR:ah _ (w.heap.size+1+1) _ _:=ah.later aJ hc2;replace bK:=BR.cell;replace bJ:=BR.free;replace iL:=BR.lt;have q1:w.heap.size+1<v2.heap.size:=by omega
   go_wp2_with fail
   refine aM rfl rfl aJ Tryz.underlying108 rfl zk ?_;exact ⟨rfl,aD⟩
  | some q=>rw [h1,k] at h;simp at h
theorem qJ (a b:Fr) (w:World) (ht:iR.Pow w) :
  Calls Tryz.prog 18 #[a.v,b.v] w (fun e w'=>e= .returned (Fr.res (pI a b))∧Below w.heap.size w w'):=by
 obtain ⟨s,t⟩:=a;obtain ⟨s',t'⟩:=b
 show Calls _ _ #[.agg #[.string s,.string t],.agg #[.string s',.string t']] _ _
 unfold pI;have HT:=zh ht;clear ht
 by_cases hbad:rd ⟨s,t⟩=none∨rd ⟨s',t'⟩=none
 ·have e:∀ f,bin f ⟨s,t⟩ ⟨s',t'⟩=(Fr.no,20):=fun f=>by
   rcases hbad with h|h
   ·exact qg h
   ·exact nZ h
  rw [e];have HA:=zh (fun w=>Ij s t s' t' w hbad);clear hbad e;go_enter Tryz.func18,Tryz.ntmps18
  go_wp2_with fail
  refine (HA.out _).mono ?_;rintro e v1 ⟨rfl,hc1⟩;have BR:=ah.later (ah.at2 _ _ _ _ _) hc1;have bK:=BR.cell;have bJ:=BR.free;have iL:=BR.lt;go_wp2_with fail
  refine (xA _).mono ?_;rintro e v2 ⟨rfl,hc2⟩;replace BR:=ah.later (BR) hc2;replace bK:=BR.cell;replace bJ:=BR.free;replace iL:=BR.lt;go_wp2_with fail
  refine aM rfl rfl aJ Tryz.underlying32 rfl zk ?_;exact ⟨rfl,aD⟩
 ·obtain ⟨p,hp⟩:∃ p,rd ⟨s,t⟩=some p:=Option.ne_none_iff_exists'.1 (fun e=>hbad (.inl e));obtain ⟨q,hq⟩:∃ q,rd ⟨s',t'⟩=some q:=Option.ne_none_iff_exists'.1 (fun e=>hbad (.inr e));rw [kZ hp hq];have KP:=zh (jr (mX hp).2);have KQ:=zh (jr (mX hq).2);have HA:=zh (fun w=>Xi s t s' t' w p q hp hq);have KR:Hid (gZ 1000000 (p*q)):=zh (gZ.mono (k:=135) ((jT KP.out KQ.out).mono zo) zo);clear hp hq hbad KP KQ;obtain ⟨r,Er⟩:∃ y:Rat,Hid (p*q=y):=⟨_,zh rfl⟩;simp only [Er.out] at KR HA ⊢;obtain ⟨x,Ex⟩:∃ y:FrI,Hid (wr r=y):=⟨_,zh rfl⟩;rw [Ex.out];obtain ⟨⟨s1,t1⟩,e⟩:=x;rw [qx];go_enter Tryz.func18,Tryz.ntmps18
  go_wp2_with fail
  refine (HA.out _).mono ?_;rintro e v1 ⟨v,rfl,hc1,hv⟩;obtain ⟨YS,lHr,ac4,av8,mHr,aB1,rfl,Hr,Sn⟩:=hv;replace Hr:=zh Hr;replace Sn:=zh Sn;have BR:=ah.later (ah.at2 _ _ _ _ _) hc1;have bK:=BR.cell;have bJ:=BR.free;have iL:=BR.lt;go_wp2_with fail
  refine ((zY _ r _ (dZ.of aI aI) KR.out (HT.out.later aD)).mono (by rw [Ex.out,qx];exact fun _ _ h=>h)).mono ?_;rintro e v2 ⟨rfl,hc2⟩;replace BR:=ah.later (BR) hc2;replace bK:=BR.cell;replace bJ:=BR.free;replace iL:=BR.lt;go_wp2_with fail
  refine aM rfl rfl aJ Tryz.underlying32 rfl zk ?_;exact ⟨rfl,aD⟩
theorem ad3 (x y:Value) (p q:Rat) (w:World) (hx:dZ w x p) (hy:dZ w y q) (kp:gZ 1000000 p) (kq:gZ 1000000 q) :
  Calls Tryz.prog 239 #[x,y] w (fun e w'=>∃ v,e= .returned v∧Below w.heap.size w w'∧dZ w' v (p+q)):=by
 obtain ⟨MW,lH,Om,pbH,mH,cbH,rfl,H,Hd⟩:=hx;replace H:=zh H;replace Hd:=zh Hd;obtain ⟨paG,lG,caG,pbG,mG,cbG,rfl,G,Gd⟩:=hy;replace G:=zh G;replace Gd:=zh Gd;have HP:=zh (Rs p q);have hp:=p.den_pos;have hq:=q.den_pos;have hg:0<p.den.gcd q.den:=Nat.gcd_pos_of_pos_right _ hq;have k1:= @jl q.den (p.den.gcd q.den);have k2:= @jl p.den (p.den.gcd q.den);have k3:=JE (a:=p.den) hq;obtain ⟨kp1,kp2⟩:=kp;obtain ⟨kq1,kq2⟩:=kq;obtain ⟨g,Eg⟩:∃ y:Nat,Hid (p.den.gcd q.den=y):=⟨_,zh rfl⟩;rw [Eg.out] at hg HP k1 k2 k3;obtain ⟨l,El⟩:∃ y:Nat,Hid (q.den / g=y):=⟨_,zh rfl⟩;rw [El.out] at HP k1;obtain ⟨r,Er⟩:∃ y:Nat,Hid (p.den / g=y):=⟨_,zh rfl⟩;rw [Er.out] at HP k2;have k4:=oh p.num l;have k5:=oh q.num r;obtain ⟨s,Es⟩:∃ y:Int,Hid (p.num*(l:Int)=y):=⟨_,zh rfl⟩;rw [Es.out] at HP k4;obtain ⟨t,Et⟩:∃ y:Int,Hid (q.num*(r:Int)=y):=⟨_,zh rfl⟩;rw [Et.out] at HP k5
 have k6:=Iy s t;obtain ⟨u,Eu⟩:∃ y:Int,Hid (s+t=y):=⟨_,zh rfl⟩;rw [Eu.out] at HP k6;have hh:0<u.natAbs.gcd g:=Nat.gcd_pos_of_pos_right _ hg;obtain ⟨h,Eh⟩:∃ y:Nat,Hid (u.natAbs.gcd g=y):=⟨_,zh rfl⟩;rw [Eh.out] at HP hh;obtain ⟨m,Em⟩:∃ y:Nat,Hid (u.natAbs / h=y):=⟨_,zh rfl⟩;rw [Em.out] at HP;obtain ⟨c,Ec⟩:∃ y:Nat,Hid (q.den / h=y):=⟨_,zh rfl⟩;rw [Ec.out] at HP;have k7:sz 1000000000 c≤sz 1000000000 q.den:=by rw [← Ec.out];exact jl
 obtain ⟨d,Ed⟩:∃ y:Nat,Hid (r*c=y):=⟨_,zh rfl⟩;rw [Ed.out] at HP;have HG:=zh hg;have HH:=zh hh;have Kpn:Hid (sz 1000000000 p.num.natAbs≤549755813888):=by unfold Hid;omega
 have Kqn:Hid (sz 1000000000 q.num.natAbs≤549755813888):=by unfold Hid;omega
 have Kpd:Hid (sz 1000000000 p.den≤549755813888):=by unfold Hid;omega
 have Kqd:Hid (sz 1000000000 q.den≤549755813888):=by unfold Hid;omega
 have Kg:Hid (sz 1000000000 g≤549755813888):=by unfold Hid;omega
 have Kl:Hid (sz 1000000000 l≤549755813888):=by unfold Hid;omega
 have Kr:Hid (sz 1000000000 r≤549755813888):=by unfold Hid;omega
 have Ks:Hid (sz 1000000000 s.natAbs≤549755813888):=by unfold Hid;omega
 have Kt:Hid (sz 1000000000 t.natAbs≤549755813888):=by unfold Hid;omega
 have Ku:Hid (sz 1000000000 u.natAbs≤549755813888):=by unfold Hid;omega
 have Kc:Hid (sz 1000000000 c≤549755813888):=by unfold Hid;omega
 clear k1 k2 k3 k4 k5 k6 k7 kp1 kp2 kq1 kq2 hg hh hp hq;go_enter Tryz.func239,Tryz.ntmps239
 go_wp2_with fail
 refine ((uQ _ _ p.den q.den _ aI aI Kpd.out Kqd.out).mono (by rw [Eg.out];exact fun _ _ h=>h)).mono ?_;rintro e v1 ⟨v,rfl,hc1,hv⟩;obtain ⟨aR5,lHg,aW3,rfl⟩:=hv.slice;have Hg:=zh hv;clear hv;have BR:=ah.later (ah.at2 _ _ _ _ _) hc1;have bK:=BR.cell;have bJ:=BR.free;have B1:=ah.later (ah.alloc (ah.pF _ _ _ _) _) hc1;have cB1:=B1.cell;have vU:=B1.free;have B0:=ah.later (ah.alloc (ah.alloc (ah.new _ _ _) _) _) hc1;have cB0:=B0.cell;have jE:=B0.free;go_wp2_with fail
 refine ((fK _ _ q.den g _ aI aI HG.out Kqd.out).mono (by rw [El.out];exact fun _ _ h=>h)).mono ?_;rintro e v2 ⟨v,vr,rfl,hc2,hv,oP⟩;obtain ⟨bg5,lHl,bl5,rfl⟩:=hv.slice;have Hl:=zh hv;clear hv;obtain ⟨bb7,bi3,bd6,rfl⟩:=oP.slice;have Hlr:=zh oP;clear oP;replace BR:=ah.later (BR) hc2;replace bK:=BR.cell;replace bJ:=BR.free;replace B1:=ah.later (B1) hc2;replace cB1:=B1.cell;replace vU:=B1.free;replace B0:=ah.later (B0) hc2;replace cB0:=B0.cell;replace jE:=B0.free;go_wp2_with fail
 refine ((fK _ _ p.den g _ aI aI HG.out Kpd.out).mono (by rw [Er.out];exact fun _ _ h=>h)).mono ?_;rintro e v3 ⟨v,vr,rfl,hc3,hv,oP⟩;obtain ⟨YS,lHr,ac4,rfl⟩:=hv.slice;have Hr:=zh hv;clear hv;obtain ⟨bb5,bi1,bd4,rfl⟩:=oP.slice;have Hrr:=zh oP;clear oP;replace BR:=ah.later (BR) hc3;replace bK:=BR.cell;replace bJ:=BR.free;replace B1:=ah.later (B1) hc3;replace cB1:=B1.cell;replace vU:=B1.free;replace B0:=ah.later (B0) hc3;replace cB0:=B0.cell;replace jE:=B0.free;go_wp2_with fail
 refine aF [(.pure,0),(.read,1),(.pure,2),(.pure,4),(.read,5),(.pure,6),(.ext,3),(.ext,7),(.ext,8),(.alloc #[.slice none 0 0,.bool false] 106,9),(.fin,10)] zk zk zR zP ?_;refine zV ?_;refine aH rfl rfl (fun w4 hb4 J hJ=>?_);go_simp;replace BR:=ah.later (ah.drew BR) hb4;replace bK:=BR.cell;replace bJ:=BR.free;replace B1:=ah.later (ah.drew B1) hb4;replace cB1:=B1.cell;replace vU:=B1.free;replace B0:=ah.later (ah.drew B0) hb4;replace cB0:=B0.cell;replace jE:=B0.free;refine ((qQ _ _ p.num l _ (dB.dX aI) aI Kpn.out Kl.out).mono (by rw [Es.out];exact fun _ _ h=>h)).mono ?_;rintro e v4 ⟨v,rfl,hc4,hv⟩;obtain ⟨Hf,lHs,Ih,rfl,Hs⟩:=hv;replace Hs:=zh Hs;replace BR:=ah.later (BR) hc4;replace bK:=BR.cell;replace bJ:=BR.free;replace B1:=ah.later (B1) hc4;replace cB1:=B1.cell;replace vU:=B1.free
 replace B0:=ah.later (B0) hc4;replace cB0:=B0.cell;replace jE:=B0.free;refine hJ _ _ hc4 ?_;clear hJ J;refine aH rfl rfl (fun w5 hb5 J hJ=>?_);go_simp;replace BR:=ah.later (BR) hb5;replace bK:=BR.cell;replace bJ:=BR.free;replace B1:=ah.later (B1) hb5;replace cB1:=B1.cell;replace vU:=B1.free;replace B0:=ah.later (B0) hb5;replace cB0:=B0.cell;replace jE:=B0.free;refine ((qQ _ _ q.num r _ (dB.dX aI) aI Kqn.out Kr.out).mono (by rw [Et.out];exact fun _ _ h=>h)).mono ?_;rintro e v5 ⟨v,rfl,nV,hv⟩;obtain ⟨bg2,lHt,bl2,rfl,Ht⟩:=hv;replace Ht:=zh Ht;replace BR:=ah.later (BR) nV;replace bK:=BR.cell;replace bJ:=BR.free;replace B1:=ah.later (B1) nV;replace cB1:=B1.cell;replace vU:=B1.free;replace B0:=ah.later (B0) nV;replace cB0:=B0.cell;replace jE:=B0.free;refine hJ _ _ nV ?_;clear hJ J;refine aH rfl rfl (fun w6 hb6 J hJ=>?_);go_simp
 replace BR:=ah.later (BR) hb6;replace bK:=BR.cell;replace bJ:=BR.free;replace B1:=ah.later (B1) hb6;replace cB1:=B1.cell;replace vU:=B1.free;replace B0:=ah.later (B0) hb6;replace cB0:=B0.cell;replace jE:=B0.free;refine ((wW _ _ s t _ (dB.dX aI) (dB.dX aI) Ks.out Kt.out).mono (by rw [Eu.out];exact fun _ _ h=>h)).mono ?_;rintro e v6 ⟨v,rfl,hc6,hv⟩;obtain ⟨bg1,lHu,bl1,rfl,Hu⟩:=hv;replace Hu:=zh Hu;replace BR:=ah.later (BR) hc6;replace bK:=BR.cell;replace bJ:=BR.free;replace B1:=ah.later (B1) hc6;replace cB1:=B1.cell;replace vU:=B1.free;replace B0:=ah.later (B0) hc6;replace cB0:=B0.cell;replace jE:=B0.free;refine hJ _ _ hc6 ?_;clear hJ J;refine cK rfl (fun b1 w7 hw7 QK ZH az9 dD=>?_);go_simp;replace dD:ah _ _ _ _:=dD;have az8:w.heap.size≤b1:=(by first|omega|exact Nat.le_trans (Below.size (B:=w.heap.size) aD) QK)
 replace BR:=ah.later (BR) hw7;replace bK:=BR.cell;replace bJ:=BR.free;replace B1:=ah.later (B1) hw7;replace cB1:=B1.cell;replace vU:=B1.free;replace B0:=ah.later (B0) hw7;replace cB0:=B0.cell;replace jE:=B0.free;refine aU [_] rfl (fun w8 qN=>?_);replace BR:=ah.later (BR) qN;replace bK:=BR.cell;replace bJ:=BR.free;replace B1:=ah.later (B1) qN;replace cB1:=B1.cell;replace vU:=B1.free;replace B0:=ah.later (B0) qN;replace cB0:=B0.cell;replace jE:=B0.free;replace dD:=ah.later (dD) qN;replace oV:=dD.cell;replace oU:=dD.free;have n0:=B0.ne dD zd;have n1:=B1.ne dD zd;have n2:=BR.ne dD zd;go_wp2_with fail
 refine ((uQ _ _ u.natAbs g _ aI aI Ku.out Kg.out).mono (by rw [Eh.out];exact fun _ _ h=>h)).mono ?_;rintro e v9 ⟨v,rfl,QG,hv⟩;obtain ⟨bg6,lHh,bl6,rfl⟩:=hv.slice;have Hh:=zh hv;clear hv;replace Hu:=zh (aQ.carry Hu.out aI QG);replace Hg:=zh (aQ.carry Hg.out aI QG);replace Hr:=zh (aQ.carry Hr.out aI QG);replace G:=zh (aQ.carry G.out aI QG);replace Gd:=zh (aQ.carry Gd.out aI QG);replace dD:ah _ (b1) _ _:=ah.later aJ QG;(try simp only [List.setIfInBounds_toArray,List.set_cons_zero,List.set_cons_succ] at dD);replace oV:=dD.cell;replace oU:=dD.free;replace BR:ah _ (w.heap.size+1+1) _ _:=ah.later aJ QG;(try simp only [List.setIfInBounds_toArray,List.set_cons_zero,List.set_cons_succ] at BR);replace bK:=BR.cell;replace bJ:=BR.free
 replace B1:ah _ (w.heap.size+1) _ _:=ah.later aJ QG;(try simp only [List.setIfInBounds_toArray,List.set_cons_zero,List.set_cons_succ] at B1);replace cB1:=B1.cell;replace vU:=B1.free;replace B0:ah _ (w.heap.size) _ _:=ah.later aJ QG;(try simp only [List.setIfInBounds_toArray,List.set_cons_zero,List.set_cons_succ] at B0);replace cB0:=B0.cell;replace jE:=B0.free;go_wp2_with fail
 refine ((fK _ _ u.natAbs h _ aI aI HH.out Ku.out).mono (by rw [Em.out];exact fun _ _ h=>h)).mono ?_;rintro e v10 ⟨v,vr,rfl,am1,hv,oP⟩;obtain ⟨bg4,lHm,bl4,rfl⟩:=hv.slice;have Hm:=zh hv;clear hv;obtain ⟨bb6,bi2,bd5,rfl⟩:=oP.slice;have Hmr:=zh oP;clear oP;replace dD:=ah.later (dD) am1;replace oV:=dD.cell;replace oU:=dD.free;replace BR:=ah.later (BR) am1;replace bK:=BR.cell;replace bJ:=BR.free;replace B1:=ah.later (B1) am1;replace cB1:=B1.cell;replace vU:=B1.free;replace B0:=ah.later (B0) am1;replace cB0:=B0.cell;replace jE:=B0.free;go_wp2_with fail
 refine ((fK _ _ q.den h _ aI aI HH.out Kqd.out).mono (by rw [Ec.out];exact fun _ _ h=>h)).mono ?_;rintro e v11 ⟨v,vr,rfl,am0,hv,oP⟩;obtain ⟨aR6,lHc,aW4,rfl⟩:=hv.slice;have Hc:=zh hv;clear hv;obtain ⟨bb8,bi4,bd7,rfl⟩:=oP.slice;have Hcr:=zh oP;clear oP;replace dD:=ah.later (dD) am0;replace oV:=dD.cell;replace oU:=dD.free;replace BR:=ah.later (BR) am0;replace bK:=BR.cell;replace bJ:=BR.free;replace B1:=ah.later (B1) am0;replace cB1:=B1.cell;replace vU:=B1.free;replace B0:=ah.later (B0) am0;replace cB0:=B0.cell;replace jE:=B0.free;go_wp2_with fail
 refine (dJ _ m _ _ aI).mono ?_;rintro e v12 ⟨v,rfl,aM2,hv⟩;obtain ⟨aR4,lHv,aW2,rfl,Hv⟩:=hv;replace Hv:=zh Hv;replace dD:=ah.later (dD) aM2;replace oV:=dD.cell;replace oU:=dD.free;replace BR:=ah.later (BR) aM2;replace bK:=BR.cell;replace bJ:=BR.free;go_wp2_with fail
 refine ((iU _ _ r c _ aI aI (Nat.le_trans Kr.out zo) (Nat.le_trans Kc.out zo)).mono (by rw [Ed.out];exact fun _ _ h=>h)).mono ?_;rintro e v13 ⟨v,rfl,aV6,hv⟩;obtain ⟨bg7,lHd,bl7,rfl⟩:=hv.slice;have Hd:=zh hv;clear hv;replace BR:=ah.later (BR) aV6;replace bK:=BR.cell;replace bJ:=BR.free;go_wp2_with fail
 refine dH rfl rfl aJ Tryz.underlying108 rfl zk ?_;exact ⟨_,rfl,aD,dZ.mk (gT m (decide (u<0))).natAbs d aI aI (by rw [HP.out.1]) HP.out.2.symm (by rw [HP.out.1])⟩
theorem Qp (v:Value) (q:Rat) (w:World) (h:dZ w v q) :
  Calls Tryz.prog 281 #[v] w (fun e w'=>∃ v,e= .returned v∧Below w.heap.size w w'∧dZ w' v (-q)):=by
 obtain ⟨MW,lH,Om,pbH,mH,cbH,rfl,H,Hd⟩:=h;replace H:=zh H;replace Hd:=zh Hd;go_enter Tryz.func281,Tryz.ntmps281
 go_wp2_with fail
 refine aF [(.pure,0),(.read,1),(.pure,3),(.read,4),(.ext,2),(.pure,5),(.fin,6)] zk zk zR zP ?_;refine zV ?_;refine aH rfl rfl (fun w1 hb1 J hJ=>?_);go_simp;have BR:=ah.later (ah.drew (ah.pF _ _ _ _)) hb1;have bK:=BR.cell;have bJ:=BR.free;refine (uI _ q.num _ (dB.dX aI)).mono ?_;rintro e v1 ⟨v,rfl,hc1,hv⟩;obtain ⟨aw1,lHS,aB7,rfl,HS⟩:=hv;replace HS:=zh HS;replace BR:=ah.later (BR) hc1;replace bK:=BR.cell;replace bJ:=BR.free;refine hJ _ _ hc1 ?_;clear hJ J;refine zV ?_;refine aU [_] rfl (fun w5 hb5=>?_);replace BR:=ah.later (BR) hb5;replace bK:=BR.cell;replace bJ:=BR.free;go_wp2_with fail
 refine dH rfl rfl aJ Tryz.underlying108 rfl zk ?_;exact ⟨_,rfl,aD,dZ.mk (-q.num).natAbs q.den aI aI rfl rfl (by simp [Rat.neg_num])⟩
theorem Qw (v:Value) (q:Rat) (w:World) (h:dZ w v q) (hq:q≠0) :
  Calls Tryz.prog 202 #[v] w (fun e w'=>∃ v,e= .returned v∧Below w.heap.size w w'∧dZ w' v q⁻¹):=by
 obtain ⟨MW,lH,Om,pbH,mH,cbH,rfl,H,Hd⟩:=h;replace H:=zh H;replace Hd:=zh Hd;have HE:=zh (WC hq);clear hq;go_enter Tryz.func202,Tryz.ntmps202
 go_wp2_with fail
 refine aF [(.pure,0),(.read,1),(.pure,2),(.pure,3),(.read,4),(.pure,6),(.pure,7),(.read,8),(.ext,5),(.pure,9),(.fin,10)] zk zk zR zP ?_;refine zV ?_;refine aH rfl rfl (fun w1 hb1 J hJ=>?_);go_simp;have BR:=ah.later (ah.drew (ah.pF _ _ _ _)) hb1;have bK:=BR.cell;have bJ:=BR.free;refine (dJ _ q.den _ _ aI).mono ?_;rintro e v1 ⟨v,rfl,hc1,hv⟩;obtain ⟨aw1,lHS,aB7,rfl,HS⟩:=hv;replace HS:=zh HS;replace BR:=ah.later (BR) hc1;replace bK:=BR.cell;replace bJ:=BR.free;refine hJ _ _ hc1 ?_;clear hJ J;refine zV ?_;refine aU [_] rfl (fun w5 hb5=>?_);replace BR:=ah.later (BR) hb5;replace bK:=BR.cell;replace bJ:=BR.free;go_wp2_with fail
 refine dH rfl rfl aJ Tryz.underlying108 rfl zk ?_;exact ⟨_,rfl,aD,dZ.mk (gT q.den (decide (q.num<0))).natAbs q.num.natAbs aI aI (by rw [HE.out.1]) HE.out.2.symm (by rw [HE.out.1])⟩
theorem au8 (x y:Value) (p q:Rat) (w:World) (hx:dZ w x p) (hy:dZ w y q) (kp:gZ 1000000 p) (kq:gZ 1000000 q) :
  Calls Tryz.prog 240 #[x,y] w (fun e w'=>∃ v,e= .returned v∧Below w.heap.size w w'∧dZ w' v (p - q)):=by
 obtain ⟨MW,lH,Om,pbH,mH,cbH,rfl,H,Hd⟩:=hx;replace H:=zh H;replace Hd:=zh Hd;obtain ⟨paG,lG,caG,pbG,mG,cbG,rfl,G,Gd⟩:=hy;replace G:=zh G;replace Gd:=zh Gd;rw [Rat.sub_eq_add_neg];have KP:=zh kp;have KQ:=zh (vI kq);clear kp kq;obtain ⟨r,Er⟩:∃ y:Rat,Hid (-q=y):=⟨_,zh rfl⟩;rw [Er.out] at KQ ⊢;obtain ⟨s,Es⟩:∃ y:Rat,Hid (p+r=y):=⟨_,zh rfl⟩;rw [Es.out];go_enter Tryz.func240,Tryz.ntmps240
 go_wp2_with fail
 refine aF [(.read,0),(.read,1),(.ext,2),(.ext,3),(.fin,4)] zk zk zR zP ?_;refine zV ?_;refine aH rfl rfl (fun w1 hb1 J hJ=>?_);go_simp;have BR:=ah.later (ah.drew (ah.at2 _ _ _ _ _)) hb1;have bK:=BR.cell;have bJ:=BR.free;refine ((Qp _ q _ (dZ.of aI aI)).mono (by rw [Er.out];exact fun _ _ h=>h)).mono ?_;rintro e v1 ⟨v,rfl,hc1,hv⟩;obtain ⟨YS,lHr,ac4,av8,mHr,aB1,rfl,Hr,Sn⟩:=hv;replace Hr:=zh Hr;replace Sn:=zh Sn;replace BR:=ah.later (BR) hc1;replace bK:=BR.cell;replace bJ:=BR.free;refine hJ _ _ hc1 ?_;clear hJ J;refine aH rfl rfl (fun w2 hb2 J hJ=>?_);go_simp;replace BR:=ah.later (BR) hb2;replace bK:=BR.cell;replace bJ:=BR.free;refine ((ad3 _ _ p r _ (dZ.of aI aI) (dZ.of aI aI) KP.out KQ.out).mono (by rw [Es.out];exact fun _ _ h=>h)).mono ?_;rintro e v2 ⟨v,rfl,hc2,hv⟩
 obtain ⟨Hf,lHs,Ih,bf1,mHs,bj9,rfl,Hs,Hsd⟩:=hv;replace Hs:=zh Hs;replace Hsd:=zh Hsd;replace BR:=ah.later (BR) hc2;replace bK:=BR.cell;replace bJ:=BR.free;refine hJ _ _ hc2 ?_;clear hJ J;refine zV ?_;refine aU [_] rfl (fun w14 az6=>?_);replace BR:=ah.later (BR) az6;replace bK:=BR.cell;replace bJ:=BR.free;go_wp2_with fail
 refine dH rfl rfl aJ Tryz.underlying108 rfl zk ?_;exact ⟨_,rfl,aD,dZ.of aI aI⟩
end Go.Proofs.dA
