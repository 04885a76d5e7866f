/- Lemmas for the proof. No condition. -/
import Derived.Test.YtbngfhgoeoncmaaGreatDoorTB24
import Derived.Laws.EntriesVeiled
set_option linter.unusedVariables false
set_option linter.unusedSimpArgs false
set_option maxRecDepth 100000
set_option maxHeartbeats 16000000
open Go.Ending renaming returned → ah
open Go.IntKind renaming i64 → I
open Go.Value renaming agg → aB, bool → aC, int → Z, pointer → au, slice → aj, string → O, tuple → aF
open List renaming replicate → bP
open Nat renaming add_zero → gL, eq_zero_or_pos → bA, le_refl → aG, le_trans → ay, lt_or_ge → aH, mul_le_mul_left → aM, one_mul → jE, pow_succ → bF, zero_add → dS
namespace Go.Proofs.whole
open Go Go.RowKit Go.SW Go.Num Go.Mem Go.Proofs Go.Dec
theorem Il {y s:Nat} (hy:sz 1000000000 y≤s):∀ i,sz 1000000000 (y^i)≤s*i+1
 | 0=>cZ zo _ _ (by rw [Nat.mul_zero,Nat.pow_zero];decide)
 | i+1=>by
  rw [bF];have h:=kg (B:=1000000000) zo (y^i) y;have:=Il hy i;rw [Nat.mul_succ];omega
theorem VX {l:Nat}:sz 1000000000 (10^l)≤l+1:=by
 refine cZ zo _ _ ?_;have h1:10^l≤1000000000^l:=Nat.pow_le_pow_left zo l;have h2:1000000000^l<1000000000^(l+1):=Nat.pow_lt_pow_right zo zo;omega
theorem xU (x:Value) (a k:Nat) (w:World) (hx:aT w x a) (hk:1≤k) (k12:k≤12) (hl:(Lib.decDigits a).length≤10000) (ha:sz 1000000000 a≤10000) (ht:iA.Pow w) :
  Calls Tryz.prog 249 #[x,Z I (k:Int)] w (fun e w'=>∃ v,e= ah v∧Below w.heap.size w w'∧aT w' v (gX k a)):=by
 obtain ⟨pa,la,ca,rfl⟩:=hx.slice
 rcases bA a with rfl|ha0
 ·have hr:gX k 0=0:=Nat.le_antisymm (FN hk (by rw [dS,Nat.one_pow];omega)) (Nat.zero_le _);rw [hr];have HX:=zh hx;clear hx hl ha ht hr;go_enter Tryz.func249,Tryz.ntmps249
  go_wp2_with fail
  refine (gM _ 0 _ HX.out).mono ?_;rintro e w1 ⟨rfl,rfl⟩;go_wp2_with fail
  go_ret
  exact ⟨_,rfl,Below.refl _ _,aT.zero _⟩
 ·have W0:∀ z:Int,0≤z∧z≤1000000000→I.wrap z=z:=fun z h=>by unfold IntKind.wrap;simp [IntKind.bits,IntKind.signed];omega
  have d0:decide (a=0)=false:=by simp;omega
  have hs:=IJ (k:=k) (m:=a) hk (Aj a);obtain ⟨l,El⟩:∃ l,Hid ((Lib.decDigits a).length=l):=⟨_,zh rfl⟩;have HLEN:=zh (fun W (hW:Below w.heap.size w W)=>gW _ a W (hx.later hW) (ay ha zo) (ht.later hW));rw [El.out] at hs hl HLEN;obtain ⟨j,Ej⟩:∃ j,l / k=j:=⟨_,rfl⟩;have hjl:j≤l:=by rw [← Ej];exact Nat.div_le_self _ _
  have t1:(l:Int).tdiv (k:Int)=(j:Int):=by rw [Int.tdiv_eq_ediv_of_nonneg zo,← Ej];rfl
  rw [Ej] at hs;have kz:¬ k=0:=by omega
  have kz2:(k:Int)≠0:=by omega
  have kz3:((k:Int) == 0)=false:=by simp;omega
  have u1:=W0 (j:Int) zo;have u2:=W0 ((j:Int)+1) zo;obtain ⟨m,hm⟩:∃ m,Hid (k=m+1):=⟨k - 1,zh zo⟩;have e1:(k:Int) - 1=(m:Int):=by have:=hm.out;omega
  have aw6:m≤11:=by have:=hm.out;omega
  have u3:=W0 (m:Int) zo;have u4:IntKind.u64.wrap (m:Int)=(m:Int):=by unfold IntKind.wrap;simp [IntKind.bits,IntKind.signed];omega
  have u5:IntKind.u32.wrap (k:Int)=(k:Int):=by unfold IntKind.wrap;simp [IntKind.bits,IntKind.signed];omega
  have ao5:=zh (fun W=>pW (j+1) zo W);have HX:=zh hx;have HA:=zh ha;have HS:=zh hs;have HA0:=zh ha0;have HRP:Hid (1≤gX k a):=zh (uQ hk (by rw [Nat.one_pow];exact ha0));clear hx ha hs ht W0 Ej;go_enter Tryz.func249,Tryz.ntmps249
  go_wp2_with fail
  refine (gM _ a _ HX.out).mono ?_;rintro e w1 ⟨rfl,rfl⟩;rw [d0];go_wp2_with fail
  refine (HLEN.out _ (Below.refl _ _)).mono ?_;rintro e w2 ⟨rfl,hb2⟩;go_wp2_with fail
  refine (ao5.out _).mono ?_;rintro e w3 ⟨v,rfl,hb3,hv⟩;obtain ⟨pv,lv,cv,rfl⟩:=hv.slice;have HV:=zh hv;have HB:=zh (Bt hb2 hb3);clear hv hb2 hb3;go_wp2_with fail
  go_loopw [5] (fun xv wr=>∃ y:Nat,Hid (aT wr xv y)∧Hid (gX k a≤y∧y≤10^(j+1))∧Below w.heap.size w wr) (fun xv wr=>tJ wr xv)
  case atStart=>exact ⟨_,HV,zh ⟨HS.out,aG _⟩,HB.out⟩
  case round =>
   obtain ⟨y,HY,HR,hb⟩:=hrel;obtain ⟨py,ly,cy,rfl⟩:=HY.out.slice;have hy0:0<y:=by have:=HR.out.1;have:=HRP.out;omega
   have hys:sz 1000000000 y≤10002:=ay (jK zo HR.out.2) (ay VX zo);have Lc:=zh (Fj _ y m wr HY.out zo (fun i hi=>ay (Il hys i) (by have:=aM 10002 (show i≤12 by omega);omega)) (ay hys zo));have HYS:=zh hys;have HY0:=zh hy0;have HBr:=zh hb;clear hb hys hy0;go_wp2_with fail
   refine Lc.out.mono ?_;rintro e w4 ⟨v4,rfl,hb4,hv4⟩;obtain ⟨p4,l4,c4,rfl⟩:=hv4.slice;have HV4:=zh hv4;have Yp:=zh hb4;clear hv4 hb4 Lc;have HD:=zh (dG _ _ a (y^m) _ (HX.out.later (Bt HBr.out Yp.out)) HV4.out (Nat.pow_pos HY0.out) (ay HA.out zo));go_wp2_with fail
   refine HD.out.mono ?_;rintro e w5 ⟨v5,v6,rfl,hb5,hv5, -⟩;obtain ⟨p5,l5,c5,rfl⟩:=hv5.slice;have HV5:=zh hv5;have Y6:=zh (Bt Yp.out hb5);clear hv5 hb5 HD HV4 Yp;go_wp2_with fail
   refine (jP m _ zo).mono ?_;rintro e w6 ⟨v7,rfl,hb6,hv6⟩;obtain ⟨p6,l6,c6,rfl⟩:=hv6.slice;have sm:sz 1000000000 m≤2:=cZ zo 2 _ zo;have HM:=zh (iE _ _ y m _ (HY.out.later (Bt Y6.out hb6)) hv6 (ay HYS.out zo) (ay sm zo));have ag2:=zh (HV5.out.later hb6);have HB6:=zh (Bt Y6.out hb6);clear hv6 hb6 HV5 Y6;go_wp2_with fail
   refine HM.out.mono ?_;rintro e w7 ⟨v8,rfl,mJ,hv7⟩;obtain ⟨p7,l7,c7,rfl⟩:=hv7.slice
   have s7:sz 1000000000 (y*m)≤10100:=by
    have h1:=kg (B:=1000000000) zo y m;have h2:=HYS.out;omega
   have s5:sz 1000000000 (a / y^m)≤10000:=ay (jK zo (Nat.div_le_self _ _)) HA.out;have HP:=zh (uN _ _ (y*m) (a / y^m) _ hv7 (ag2.out.later mJ) (ay s7 zo) (ay s5 zo))
   have ag5:Hid (sz 1000000000 (y*m+a / y^m)≤1099511627776):=zh (by
    have:=yK (B:=1000000000) zo (y*m) (a / y^m);omega)
   have HB7:=zh (Bt HB6.out mJ);clear hv7 mJ HM ag2 HB6 s7 s5;go_wp2_with fail
   refine HP.out.mono ?_;rintro e w8 ⟨v9,rfl,xI,hv8⟩;obtain ⟨p8,l8,c8,rfl⟩:=hv8.slice;have HSH:=zh (qX _ _ k _ hv8 ag5.out zo zo);have HB8:=zh (Bt HB7.out xI);clear hv8 xI HP ag5 HB7;have en:(y*m+a / y^m) / k=IK k a y:=by unfold IK;rw [show k - 1=m by have:=hm.out;omega]
   rw [en] at HSH;obtain ⟨z,Ez⟩:∃ z,Hid (IK k a y=z):=⟨_,zh rfl⟩;rw [Ez.out] at HSH;clear en;go_wp2_with fail
   refine HSH.out.mono ?_;rintro e w9 ⟨v10,rfl,xZ,hv9⟩;obtain ⟨p9,l9,c9,rfl⟩:=hv9.slice;have HV9:=zh hv9;have HB9:=zh (Bt HB8.out xZ);have HCM:=zh (iT _ _ z y _ hv9 (HY.out.later (Bt HB8.out xZ)));clear hv9 xZ HSH HB8;go_wp2_with fail
   refine HCM.out.mono ?_;rintro e w10 ⟨rfl,WX⟩;have Yq:=zh (Bt HB9.out WX);have ag4:=zh (HV9.out.later WX);have HYZ:=zh (HY.out.later Yq.out);clear HCM HB9 HV9 WX
   rcases aH z y with hlt|hge
   ·rw [nM hlt];have hz:=Bt HBr.out Yq.out;go_wp2_with fail
    go_roundw
    case rel=>exact ⟨z,ag4,zh ⟨by rw [← Ez.out];exact Sz hk HY0.out,by have:=HR.out.2;omega⟩,hz⟩
    case measure=>rw [oZ ag4.out,oZ HY.out];exact hlt
   ·have g:decide ((0:Int)≤oM z y)=true:=by
     rcases Nat.eq_or_lt_of_le hge with h|h
     ·rw [h,ow];rfl
     ·rw [mR h];rfl
    have hw:=Bt HBr.out Yq.out;have HE:Hid (y=gX k a):=zh (OV hk HY0.out HR.out.1 (by rw [Ez.out];exact hge));go_wp2_with fail
    go_ret
    exact ⟨_,rfl,hw,by rw [← HE.out];exact HYZ.out⟩
end Go.Proofs.whole
namespace Go.Proofs.whole
open Go Go.RowKit Go.SW Go.Num Go.Mem Go.Proofs Go.Dec Go.d9
def DW (z:Int):Value:=if mQ z.natAbs=true then aF #[dX z,Z I 0] else aF #[O ⟨#[]⟩,Z I 6]
theorem jo (v:Value) (z:Int) (w:World) (h:bW w v z) (kz:sz 1000000000 z.natAbs≤1099511627776) (ht:iA.Pow w) :
  Calls Tryz.prog 164 #[v] w (fun e w'=>e= ah (DW z)∧Below w.heap.size w w'):=by
 obtain ⟨pa,l,ca,rfl,hm⟩:=h
 have hlen:((1+(Lib.decDigits z.natAbs).length:Nat):Int)≤9223372036854775807:=by
  have h1:=rO (eH (B:=1000000000) zo z.natAbs);rw [dh zo] at h1;unfold sz at kz;omega
 have UO:¬ 9223372036854775807<1+(Lib.decDigits z.natAbs).length:=by omega
 have Y2:=zh (fun W (hW:Below w.heap.size w W)=>gW _ z.natAbs W (hm.later hW) kz (ht.later hW));have HDI:=zh (fun W (hW:Below w.heap.size w W)=>lV _ z.natAbs W (hm.later hW) kz (ht.later hW));unfold DW;clear hm kz ht hlen
 rcases aH 600 (Lib.decDigits z.natAbs).length with hb|hb
 ·rw [if_neg (by rw [zB hb];decide)];have g:decide ((600:Int)<((Lib.decDigits z.natAbs).length:Int))=true:=by simp;omega
  clear hb UO;generalize (Lib.decDigits z.natAbs).length=n at *;generalize decide (z<0)=b at *;go_enter Tryz.func164,Tryz.ntmps164
  go_wp2_with fail
  refine (Y2.out _ aO).mono ?_;rintro e w1 ⟨rfl,hb1⟩;have hw:=Bt (show Below w.heap.size w (w.alloc (.cells #[aj pa l ca,aC b] 234)) from aO) hb1;go_wp2_with fail
  go_ret2
  exact ⟨rfl,hw⟩
 ·rw [if_pos (eZ.2 hb)];have g:decide ((600:Int)<((Lib.decDigits z.natAbs).length:Int))=false:=by simp;omega
  by_cases hz:z<0
  ·have e:dX z= O ⟨(45::Lib.decDigits z.natAbs).toArray⟩:=by unfold dX Lib.itoa;rw [if_pos hz]
   rw [e,decide_eq_true hz];clear e hz hb;go_enter Tryz.func164,Tryz.ntmps164
   go_wp2_with fail
   refine (Y2.out _ aO).mono ?_;rintro e w1 ⟨rfl,hb1⟩;have hx:=aA.later (aA.new w #[aj pa l ca,aC true] 234) hb1;have cx:=hx.cell;have lx:=hx.lt;have HW:=zh (Bt (show Below w.heap.size w (w.alloc (.cells #[aj pa l ca,aC true] 234)) from aO) hb1);go_wp2_with fail
   refine (HDI.out _ HW.out).mono ?_;rintro e w2 ⟨rfl,hb2⟩;have hw:=Bt HW.out hb2;go_wp2_with fail
   go_ret2
   exact ⟨rfl,hw⟩
  ·have e:dX z= O ⟨(Lib.decDigits z.natAbs).toArray⟩:=by unfold dX Lib.itoa;rw [if_neg hz,show z.toNat=z.natAbs by omega]
   rw [e,decide_eq_false hz];clear e hz hb;go_enter Tryz.func164,Tryz.ntmps164
   go_wp2_with fail
   refine (Y2.out _ aO).mono ?_;rintro e w1 ⟨rfl,hb1⟩;have hx:=aA.later (aA.new w #[aj pa l ca,aC false] 234) hb1;have cx:=hx.cell;have lx:=hx.lt;have HW:=zh (Bt (show Below w.heap.size w (w.alloc (.cells #[aj pa l ca,aC false] 234)) from aO) hb1);go_wp2_with fail
   refine (HDI.out _ HW.out).mono ?_;rintro e w2 ⟨rfl,hb2⟩;have hw:=Bt HW.out hb2;go_wp2_with fail
   go_ret2
   exact ⟨rfl,hw⟩
theorem rA {a b:Nat} (h:mQ b=true) (hab:a≤b):mQ a=true:=by
 unfold mQ at *;have:=of_decide_eq_true h;exact decide_eq_true zo
theorem qj {k a:Nat} (hk:1≤k):gX k a≤a:=by
 have h:=(ku hk a).1
 rcases bA (gX k a) with h0|h0
 ·omega
 ·have:=Nat.le_self_pow (by omega:k≠0) (gX k a);omega
theorem vG {a:Nat} (h:mQ a=true):DW (a:Int)= aF #[dX (a:Int),Z I 0]:=by
 unfold DW;rw [Int.natAbs_natCast,if_pos h]
theorem DI (a k:Nat) (ha:mQ a=true) (hk:1≤k) (k12:k≤12) (w:World) (ht:iA.Pow w) :
  Calls Tryz.prog 174 #[dX (a:Int),Z I (k:Int)] w (fun e w'=>e= ah (aF #[dX (gX k a:Nat),Z I 0])∧Below w.heap.size w w'):=by
 have hd:(Lib.decDigits a).length≤600:=eZ.1 ha;have hs:=kW ha;have hro:mQ (gX k a)=true:=rA ha (qj hk);have HR:=zh (fun W=>uM (a:Int) (by rw [Int.natAbs_natCast];exact hd) W);have HRT:=zh (fun x W hx hp=>xU x a k W hx hk k12 zo zo hp);have Hw:=zh (fun v W h hp=>jo v (gX k a:Nat) W h (by rw [Int.natAbs_natCast];exact ay (kW hro) zo) hp);rw [vG hro] at Hw;have HP:=zh ht;have g0:decide ((a:Int)<0)=false:=by simp
 have g1:decide ((k:Int)<1)=false:=by simp;omega
 have g2:decide ((12:Int)<(k:Int))=false:=by simp;omega
 clear hd hs hro ha ht;obtain ⟨r,Er⟩:∃ r,gX k a=r:=⟨_,rfl⟩;rw [Er] at HRT Hw ⊢;clear Er;unfold dX at HR Hw ⊢;generalize (⟨(Lib.itoa (a:Int)).toArray⟩:ByteArray)=ta at *;generalize (⟨(Lib.itoa (r:Int)).toArray⟩:ByteArray)=tr at *;go_enter Tryz.func174,Tryz.ntmps174
 go_wp2_with fail
 refine (HR.out _).mono ?_;rintro e w1 ⟨v,rfl,hb1,hv⟩;obtain ⟨pa,l,ca,rfl,hm⟩:=hv;rw [Int.natAbs_natCast] at hm;rw [g0];have HM:=zh hm;have HB1:=zh hb1;clear hm hb1;go_wp2_with fail
 have hb2:Below w1.heap.size w1 (w1.alloc (.cells #[aj pa l ca,aC false] 234)):=aO;refine (HRT.out _ _ (HM.out.later hb2) (HP.out.later (Bt HB1.out hb2))).mono ?_;rintro e w2 ⟨v,rfl,hb3,hv⟩;obtain ⟨p2,l2,c2,rfl⟩:=hv.slice;have YW:=zh hv;have HB2:=zh (Bt HB1.out (Bt hb2 hb3));clear hv hb2 hb3;go_wp2_with fail
 refine (dM _ r false _ YW.out).mono ?_;rintro e w3 ⟨v,rfl,hb4,hv⟩;obtain ⟨p3,l3,c3,rfl,hm3⟩:=id hv;have HI:=zh (hv.cast (show iZ r false=(r:Int) from rfl));have HB3:=zh (Bt HB2.out hb4);have g3:decide (iZ r false<0)=false:=by unfold iZ;simp
 rw [g3] at HI ⊢;clear hv hm3 hb4;go_wp2_with fail
 refine (Hw.out _ _ HI.out (HP.out.later HB3.out)).mono ?_;rintro e w4 ⟨rfl,hb5⟩;have hw:=Bt HB3.out hb5;go_wp2_with fail
 go_ret2
 exact ⟨rfl,hw⟩
theorem wm (a n:Nat) (ha:mQ a=true) (n40:n≤40) (w:World) (ht:iA.Pow w) :
  Calls Tryz.prog 99 #[dX (a:Int),Z I (n:Int)] w (fun e w'=>e= ah (DW (a^n:Nat))∧Below w.heap.size w w'):=by
 have hd:(Lib.decDigits a).length≤600:=eZ.1 ha;have hs:=kW ha;have hp:∀ i,i≤n→sz 1000000000 (a^i)≤10000:=fun i hi=>ay (Il hs i) (by have:=aM 67 (show i≤40 by omega);omega);have HR:=zh (fun W=>uM (a:Int) (by rw [Int.natAbs_natCast];exact hd) W);have HRT:=zh (fun x W hx=>Fj x a n W hx zo (fun i hi=>ay (hp i hi) zo) zo);have Hw:=zh (fun v W h hq=>jo v (a^n:Nat) W h (by rw [Int.natAbs_natCast];exact ay (hp n (aG _)) zo) hq);have HP:=zh ht;have g0:decide ((a:Int)<0)=false:=by simp
 have g1:decide ((n:Int)<0)=false:=by simp
 have g2:decide ((40:Int)<(n:Int))=false:=by simp;omega
 clear hd hs hp ha ht;obtain ⟨r,Er⟩:∃ r,a^n=r:=⟨_,rfl⟩;rw [Er] at HRT Hw ⊢;clear Er
 obtain ⟨tr,kr,Ew⟩:∃ tr kr,DW (r:Int)= aF #[O tr,Z I kr]:=by
  unfold DW dX;split
  ·exact ⟨_,_,rfl⟩
  ·exact ⟨_,_,rfl⟩
 rw [Ew] at Hw ⊢;clear Ew;unfold dX at HR ⊢;generalize (⟨(Lib.itoa (a:Int)).toArray⟩:ByteArray)=ta at *;go_enter Tryz.func99,Tryz.ntmps99
 go_wp2_with fail
 refine (HR.out _).mono ?_;rintro e w1 ⟨v,rfl,hb1,hv⟩;obtain ⟨pa,l,ca,rfl,hm⟩:=hv;rw [Int.natAbs_natCast] at hm;rw [g0];have HM:=zh hm;have HB1:=zh hb1;clear hm hb1;go_wp2_with fail
 obtain ⟨wx,EW,hz,X⟩:=Nf w1 #[aj pa l ca,aC false] 234;rw [EW];clear EW;replace HM:=zh (HM.out.later hz);have HB2:=zh (Bt HB1.out hz);clear hz HB1;obtain ⟨bx,eb⟩:∃ y,w1.heap.size=y:=⟨_,rfl⟩;rw [eb] at X ⊢;have cX:=X.out.cell;have lX:=X.out.lt;refine aQ [(.pure,0),(.read,1),(.pure,2),(.pure,4),(.read,5),(.ext,3),(.pure,6),(.pure,7),(.pure,8),(.pure,9),(.pure,10),(.ext,11),(.ext,12),(.pure,13),(.pure,14),(.fin,15),(.fin,16)] zk zk zR zP ?_;refine zW ?_;refine aN rfl rfl (fun we hbe J hJ=>?_);go_simp;have h1:Below wx.heap.size wx we:=aO;refine (HRT.out _ _ (HM.out.later h1)).mono ?_;rintro e w2 ⟨v,rfl,hb2,hv⟩;obtain ⟨p2,l2,c2,rfl⟩:=hv.slice;refine hJ _ _ hb2 ?_;clear hJ J;have YW:=zh hv;have h2:=Bt h1 hb2;clear hv h1 hbe hb2
 repeat (first|(refine nJ rfl rfl (fun J hJ=>?_);go_simp;refine hJ _ ?_;clear hJ J)|(refine rV rfl rfl rfl (fun J hJ=>?_);go_simp;refine hJ _ ?_;clear hJ J))
 refine aN rfl rfl (fun we hbe J hJ=>?_);go_simp;have h3:Below w2.heap.size w2 we:=aO;refine (dM _ r false _ (YW.out.later h3)).mono ?_;rintro e w3 ⟨v,rfl,hb3,hv⟩;obtain ⟨p3,l3,c3,rfl,hm3⟩:=id hv;have HI:=zh (hv.cast (show iZ r false=(r:Int) from rfl));have g3:decide (iZ r false<0)=false:=by unfold iZ;simp
 rw [g3] at HI ⊢;refine hJ _ _ hb3 ?_;clear hJ J;have h4:=Bt h2 (Bt h3 hb3);clear hv hm3 hb3 h3 h2 hbe
 repeat (first|(refine nJ rfl rfl (fun J hJ=>?_);go_simp;refine hJ _ ?_;clear hJ J)|(refine rV rfl rfl rfl (fun J hJ=>?_);go_simp;refine hJ _ ?_;clear hJ J))
 refine aN rfl rfl (fun we hbe J hJ=>?_);go_simp;have h5:Below w3.heap.size w3 we:=aO;refine (Hw.out _ _ (HI.out.later h5) (HP.out.later (Bt HB2.out (Bt h4 h5)))).mono ?_;rintro e w4 ⟨rfl,hb4⟩;refine hJ _ _ hb4 ?_;clear hJ J;have h6:=Bt h4 (Bt h5 hb4);clear hb4 h5 h4 hbe
 repeat (first|(refine nJ rfl rfl (fun J hJ=>?_);go_simp;refine hJ _ ?_;clear hJ J)|(refine rV rfl rfl rfl (fun J hJ=>?_);go_simp;refine hJ _ ?_;clear hJ J))
 refine bT [_,_] rfl (fun wf hbf=>?_);have hw:Below w.heap.size w wf:=Bt HB2.out (Bt h6 aO);go_wp2_with fail
 go_ret2
 exact ⟨rfl,hw⟩
end Go.Proofs.whole
namespace Go.Mem
open Go Go.RowKit
section
variable {P:Program} {fn:Func} {R:Ending→World→Prop} {w:World} {tmps:Array Value}
theorem E9 {p q u:Tmp} {ty Lj:TypeId} (h:fn.results=#[.cell p ty,.cell q Lj,.tmp u]) :
  (results fn tmps).run P w=((asAddr (tmps.getD p undef)).run P w).andThen fun a w₁=>((loadVar ty a).run P w₁).andThen fun v w₂=>((asAddr (tmps.getD q undef)).run P w₂).andThen fun a' w₃=>((loadVar Lj a').run P w₃).andThen fun v' w₄=>.ok (aF #[v,v',tmps.getD u undef]) w₄:=by
 simp only [results,h];simp [Sem.run_bind,Result.andThen]
theorem RZ {p q u:Tmp} {ty Lj t t2:TypeId} {g g2:Nat} {cs cs2:Array Value} {d d2:TypeDesc} (h:fn.results=#[.cell p ty,.cell q Lj,.tmp u])
  (hp:tmps.getD p undef= au (some ⟨g,0,none⟩)) (hg:aA w g cs t) (hu:P.underlying ty=some d) (hd:(match d with| .struct _| .array _ _=>true| _=>false)=true) (hi:(P.info? ty).map (·.size)=some cs.size)
  (hp2:tmps.getD q undef= au (some ⟨g2,0,none⟩)) (hg2:aA w g2 cs2 t2) (hu2:P.underlying Lj=some d2) (hd2:(match d2 with| .struct _| .array _ _=>true| _=>false)=true) (hi2:(P.info? Lj).map (·.size)=some cs2.size)
  (k:R (ah (aF #[aB cs,aB cs2,tmps.getD u undef])) w):bodyPost P fn R .ret { tmps:=tmps,defers:=[] } w:=by
 have e:(results fn tmps).run P w= .ok (aF #[aB cs,aB cs2,tmps.getD u undef]) w:=by
  rw [E9 h,hp];simp only [asAddr,Sem.run_pure,Result.andThen_ok];rw [run_loadVar_row w g t ty cs (0,0) d hg hu hd hi];simp only [Result.andThen_ok];rw [hp2];simp only [asAddr,Sem.run_pure,Result.andThen_ok];rw [run_loadVar_row w g2 t2 Lj cs2 (0,0) d2 hg2 hu2 hd2 hi2];rfl
 refine bodyPost_ret e rfl k
end
end Go.Mem
namespace Go.Proofs.whole
open Go Go.RowKit Go.SW Go.Num Go.Mem Go.Proofs Go.Dec Go.d9
theorem J8 (a b:Nat) (ha:(Lib.decDigits a).length≤600) (hb:(Lib.decDigits b).length≤600) (w:World) :
  Calls Tryz.prog 169 #[dX (a:Int),dX (b:Int)] w (fun e w'=>∃ p1 l1 c1 p2 l2 c2,e= ah (aF #[aB #[aj p1 l1 c1,aC false],aB #[aj p2 l2 c2,aC false],Z I 0])∧Below w.heap.size w w'∧aT w' (aj p1 l1 c1) a∧aT w' (aj p2 l2 c2) b):=by
 have RA:Hid (∀ W,Calls Tryz.prog 163 #[dX (a:Int)] W (fun e w'=>∃ p l c,e= ah (aF #[aB #[aj p l c,aC false],aC true])∧Below W.heap.size W w'∧aT w' (aj p l c) a)):=zh fun W=>(uM (a:Int) (by rw [Int.natAbs_natCast];exact ha) W).mono fun e w' ⟨v,h1,h2,p,l,c,h3,h4⟩=>by
  rw [Int.natAbs_natCast] at h4;have g0:decide ((a:Int)<0)=false:=by simp
  rw [g0] at h3;exact ⟨p,l,c,by rw [h1,h3],h2,h4⟩
 have RB:Hid (∀ W,Calls Tryz.prog 163 #[dX (b:Int)] W (fun e w'=>∃ p l c,e= ah (aF #[aB #[aj p l c,aC false],aC true])∧Below W.heap.size W w'∧aT w' (aj p l c) b)):=zh fun W=>(uM (b:Int) (by rw [Int.natAbs_natCast];exact hb) W).mono fun e w' ⟨v,h1,h2,p,l,c,h3,h4⟩=>by
  rw [Int.natAbs_natCast] at h4;have g0:decide ((b:Int)<0)=false:=by simp
  rw [g0] at h3;exact ⟨p,l,c,by rw [h1,h3],h2,h4⟩
 clear ha hb;unfold dX at *;generalize (⟨(Lib.itoa (a:Int)).toArray⟩:ByteArray)=ta at *;generalize (⟨(Lib.itoa (b:Int)).toArray⟩:ByteArray)=tb at *;go_enter Tryz.func169,Tryz.ntmps169
 go_wp2_with fail
 obtain ⟨wq1,EW,hz,X1,X2⟩:=al2 w #[aj none 0 0,aC false] 234 #[aj none 0 0,aC false] 234;rw [EW];have hk2:=Bt (Below.refl _ _) hz;clear EW hz;refine (RA.out _).mono ?_;rintro e wc3 ⟨p1,l1,c1,rfl,hb3,hm⟩;replace X1:=X1.bl hb3;replace X2:=X2.bl hb3;have hk5:=Bt hk2 hb3;clear hk2;have NX:=zh hm;clear hb3 hm;obtain ⟨Qz,Pp,fX1⟩:=X1.clf;go_wp2_with fail
 clear Qz Pp fX1;have hz:Below w.heap.size w ((wc3.setCell ⟨w.heap.size,0,none⟩ (aj p1 l1 c1)).setCell ⟨w.heap.size,1,none⟩ (aC false)):=aO;obtain ⟨wq6,EW⟩:∃ y,((wc3.setCell ⟨w.heap.size,0,none⟩ (aj p1 l1 c1)).setCell ⟨w.heap.size,1,none⟩ (aC false))=y:=⟨_,rfl⟩;have tX1:=((X1.out.set 0 (aj p1 l1 c1)).set 1 (aC false));have tX2:=((X2.out.setOther (a:=⟨w.heap.size,0,none⟩) (aj p1 l1 c1) (by first|assumption|(simp;done)|(simp;omega))).setOther (a:=⟨w.heap.size,1,none⟩) (aC false) (by first|assumption|(simp;done)|(simp;omega)));have tNX:=((NX.out.setOther X1.out zd 0 (aj p1 l1 c1)).setOther (X1.out.set 0 (aj p1 l1 c1)) zd 1 (aC false));rw [EW] at tX1;replace X1:Hid (aA wq6 (w.heap.size) #[aj p1 l1 c1,aC false] 234):=zh tX1;clear tX1;rw [EW] at tX2;replace X2:Hid (aA wq6 (w.heap.size+1) #[aj none 0 0,aC false] 234):=zh tX2;clear tX2
 rw [EW] at tNX;replace NX:=zh tNX;clear tNX;rw [EW] at hz ⊢;clear EW;clear hk5;have hk6:=hz;clear hz;refine (RB.out _).mono ?_;rintro e wc7 ⟨p2,l2,c2,rfl,mJ,hm⟩;replace X1:=X1.bl mJ;replace X2:=X2.bl mJ;replace NX:=zh (NX.out.later mJ);have hk9:=Bt hk6 mJ;clear hk6;have NY:=zh hm;clear mJ hm;obtain ⟨cX2,ZT,fX2⟩:=X2.clf;have HK:=zh hk9;obtain ⟨wl,Ewl⟩:∃ y,y=wc7:=⟨_,rfl⟩;subst Ewl;have c1':=X1.out.cell;have l1':=X1.out.lt;have f1':=X1.out.free;have c2':=X2.out.cell;have l2':=X2.out.lt;have f2':=X2.out.free;go_wp2_with fail
 go_region
 go_wp2_with fail
 have hw:=HK.out;have hx1:=X1.out;have hx2:=X2.out;refine RZ rfl rfl aY Tryz.underlying234 rfl zk rfl aY Tryz.underlying234 rfl zk ?_;exact ⟨_,_,_,_,_,_,rfl,aO,aK,aK⟩
end Go.Proofs.whole
namespace Go.Proofs.whole
open Go Go.RowKit Go.SW Go.Num Go.Mem Go.Proofs Go.Dec
theorem _root_.Go.Y7 {G:Prop} (h:G:=by
 obtain ⟨BM,lH,Ce,rfl,H⟩:=h;replace H:=zh H;obtain ⟨au9,lH2,az7,rfl,H2⟩:=h2;replace H2:=zh H2;have KZ:=zh kz;have KY:=zh ky;clear kz ky;go_enter Zj,Zi
 go_wp2_with fail
 refine aQ [(.pure,0),(.read,1),(.pure,2),(.read,3),(.pure,5),(.read,6),(.pure,7),(.read,8),(.pure,9),(.ext,4),(.ext,10),(.fin,11)] zk zk zR zP ?_;refine zV ?_;refine aN rfl rfl (fun w1 hb1 J hJ=>?_);go_simp;have BR:=aA.later (aA.drew (aA.at2 _ _ _ _ _)) hb1;have bR:=BR.cell;have bQ:=BR.free;refine (iE _ _ z.natAbs y.natAbs _ aK aK (Nat.le_trans KZ.out zo) (Nat.le_trans KY.out zo)).mono ?_;rintro e v1 ⟨v,rfl,hc1,hv⟩;obtain ⟨Wn,lHS,XH,rfl⟩:=hv.slice;have HS:=zh hv;clear hv;replace BR:=aA.later (BR) hc1;replace bR:=BR.cell;replace bQ:=BR.free;refine hJ _ _ hc1 ?_;clear hJ J;refine aN rfl rfl (fun w2 hb2 J hJ=>?_);go_simp;replace BR:=aA.later (BR) hb2;replace bR:=BR.cell;replace bQ:=BR.free;refine (dM _ (z.natAbs*y.natAbs) _ _ aK).mono ?_;rintro e v2 ⟨v,rfl,hc2,hv⟩;obtain ⟨Wm,lHT,XG,rfl,HT⟩:=hv;replace HT:=zh HT
 replace BR:=aA.later (BR) hc2;replace bR:=BR.cell;replace bQ:=BR.free;refine hJ _ _ hc2 ?_;clear hJ J;refine bT [_] rfl (fun w5 hb5=>?_);replace BR:=aA.later (BR) hb5;replace bR:=BR.cell;replace bQ:=BR.free;go_wp2_with fail
 refine iX rfl rfl aY Co rfl zk ?_;exact ⟨_,rfl,aO,(bW.dx aK).cast (yP z y)⟩):G:=h
theorem uq (v u:Value) (z y:Int) (w:World) (h:bW w v z) (h2:bW w u y) (kz:sz 1000000000 z.natAbs≤549755813888) (ky:sz 1000000000 y.natAbs≤549755813888) :
  Calls Tryz.prog 238 #[v,u] w (fun e w'=>∃ v,e= ah v∧Below w.heap.size w w'∧bW w' v (z*y)):=Y7
end Go.Proofs.whole
namespace Go.Proofs.whole
open Go Go.RowKit Go.SW Go.Num Go.Mem Go.Proofs Go.Dec Go.d9
theorem Bg (a b:Nat) (ha:mQ a=true) (hb:mQ b=true) (w:World) (ht:iA.Pow w) :
  Calls Tryz.prog 167 #[Z I 2,dX (a:Int),dX (b:Int)] w (fun e w'=>e= ah (DW (a*b:Nat))∧Below w.heap.size w w'):=by
 have sa:=kW ha;have sb:=kW hb
 have sr:sz 1000000000 (a*b)≤1000:=by
  have h1:=kg (B:=1000000000) zo a b;have h2:=yK (B:=1000000000) zo a b;omega
 have HPR:=zh (fun W=>J8 a b (eZ.1 ha) (eZ.1 hb) W);have HOP:=zh (fun v u W hv hu=>uq v u (a:Int) (b:Int) W hv hu (by rw [Int.natAbs_natCast];omega) (by rw [Int.natAbs_natCast];omega));have Hw:=zh (fun v W h hq=>jo v (a*b:Nat) W h (by rw [Int.natAbs_natCast];omega) hq);have HP:=zh ht;clear sa sb sr ha hb ht;have e:(a:Int)*(b:Int)=((a*b:Nat):Int):=by simp
 rw [e] at HOP;have g0:decide ((a:Int)<0)=false:=by simp
 have g1:decide ((b:Int)<0)=false:=by simp
 have IA:Hid (∀ W p l c,aT W (aj p l c) a→bW W (aB #[aj p l c,aC false]) (a:Int)):=zh fun W p l c h=>⟨p,l,c,by rw [g0],by rw [Int.natAbs_natCast];exact h⟩;have IB:Hid (∀ W p l c,aT W (aj p l c) b→bW W (aB #[aj p l c,aC false]) (b:Int)):=zh fun W p l c h=>⟨p,l,c,by rw [g1],by rw [Int.natAbs_natCast];exact h⟩;clear e g0 g1;obtain ⟨r,Er⟩:∃ r,a*b=r:=⟨_,rfl⟩;rw [Er] at HOP Hw ⊢;clear Er
 obtain ⟨tr,kr,Ew⟩:∃ tr kr,DW (r:Int)= aF #[O tr,Z I kr]:=by
  unfold DW dX;split
  ·exact ⟨_,_,rfl⟩
  ·exact ⟨_,_,rfl⟩
 rw [Ew] at Hw ⊢;clear Ew;unfold dX at HPR ⊢;generalize (⟨(Lib.itoa (a:Int)).toArray⟩:ByteArray)=ta at *;generalize (⟨(Lib.itoa (b:Int)).toArray⟩:ByteArray)=tb at *;go_enter Tryz.func167,Tryz.ntmps167
 go_wp2_with fail
 refine (HPR.out _).mono ?_;rintro e w1 ⟨p1,l1,c1,p2,l2,c2,rfl,hb1,hx,hy⟩;have HX:=zh hx;have HY:=zh hy;have HB1:=zh hb1;clear hx hy hb1;go_wp2_with fail
 obtain ⟨wx,EW,hz,X1,X2,X3⟩:=al3 w1 #[aj p1 l1 c1,aC false] 234 #[aj p2 l2 c2,aC false] 234 #[.func (.func 236) #[] #[],.func (.func 237) #[] #[],.func (.func 238) #[] #[],.func (.func 239) #[] #[]] 302;rw [EW];clear EW;replace HX:=zh (HX.out.later hz);replace HY:=zh (HY.out.later hz);have HB2:=zh (Bt HB1.out hz);clear hz HB1;obtain ⟨bx,eb⟩:∃ y,w1.heap.size=y:=⟨_,rfl⟩;rw [eb] at X1 X2 X3 ⊢;have Qz:=X1.out.cell;have Pp:=X1.out.lt;have cX2:=X2.out.cell;have ZT:=X2.out.lt;have cX3:=X3.out.cell;have lX3:=X3.out.lt;refine aQ [(.pure,0),(.pure,1),(.pure,2),(.read,3),(.read,4),(.read,5),(.ext,6),(.ext,7),(.pure,8),(.pure,9),(.fin,10),(.fin,11)] zk zk zR zP ?_;refine zV ?_;refine aN rfl rfl (fun we hbe J hJ=>?_);go_simp;have h1:Below wx.heap.size wx we:=aO;refine (HOP.out _ _ _ (IA.out _ _ _ _ (HX.out.later h1)) (IB.out _ _ _ _ (HY.out.later h1))).mono ?_
 rintro e w2 ⟨v,rfl,hb2,hv⟩;obtain ⟨p3,l3,c3,rfl,hm3⟩:=id hv;have HI:=zh hv;generalize decide ((r:Int)<0)=br at *;refine hJ _ _ hb2 ?_;clear hJ J;have h2:=Bt h1 hb2;clear hv h1 hbe hb2 hm3;refine zV ?_;refine aN rfl rfl (fun we hbe J hJ=>?_);go_simp;have h5:Below w2.heap.size w2 we:=aO;refine (Hw.out _ _ (HI.out.later h5) (HP.out.later (Bt HB2.out (Bt h2 h5)))).mono ?_;rintro e w4 ⟨rfl,hb4⟩;refine hJ _ _ hb4 ?_;clear hJ J;have h6:=Bt h2 (Bt h5 hb4);clear hb4 h5 h2 hbe;refine zV ?_;refine bT [_,_] rfl (fun wf hbf=>?_);have hw:Below w.heap.size w wf:=Bt HB2.out (Bt h6 aO);go_wp2_with fail
 go_ret2
 exact ⟨rfl,hw⟩
theorem wu (a b:Nat) (ha:mQ a=true) (hb:mQ b=true) (w:World) (ht:iA.Pow w) :
  Calls Tryz.prog 100 #[dX (a:Int),dX (b:Int)] w (fun e w'=>e= ah (DW (a*b:Nat))∧Below w.heap.size w w'):=by
 have H:=zh (Bg a b ha hb w ht)
 obtain ⟨tr,kr,Ew⟩:∃ tr kr,DW (a*b:Nat)= aF #[O tr,Z I kr]:=by
  unfold DW dX;split
  ·exact ⟨_,_,rfl⟩
  ·exact ⟨_,_,rfl⟩
 rw [Ew] at H ⊢;clear Ew ha hb ht;unfold dX at *;generalize (⟨(Lib.itoa (a:Int)).toArray⟩:ByteArray)=ta at *;generalize (⟨(Lib.itoa (b:Int)).toArray⟩:ByteArray)=tb at *;go_enter Tryz.func100,Tryz.ntmps100
 go_wp2_with fail
 refine H.out.mono ?_;rintro e w1 ⟨rfl,hb1⟩;go_wp2_with fail
 go_ret2
 exact ⟨rfl,hb1⟩
theorem wC (a b:Nat) (ha:mQ a=true) (hb:mQ b=true) (b0:0<b) (w:World) (ht:iA.Pow w) :
  Calls Tryz.prog 102 #[dX (a:Int),dX (b:Int)] w (fun e w'=>e= ah (aF #[dX (a / b:Nat),dX (a%b:Nat),Z I 0])∧Below w.heap.size w w'):=by
 have sa:=kW ha;have q1:mQ (a / b)=true:=rA ha (Nat.div_le_self _ _);have q2:mQ (a%b)=true:=rA ha (Nat.mod_le _ _);have HPR:=zh (fun W=>J8 a b (eZ.1 ha) (eZ.1 hb) W);have Y4:=zh (fun x y W hx hy=>dG x y a b W hx hy b0 zo);have HW1:=zh (fun v W h hq=>jo v (a / b:Nat) W h (by rw [Int.natAbs_natCast];exact ay (kW q1) zo) hq);have HW2:=zh (fun v W h hq=>jo v (a%b:Nat) W h (by rw [Int.natAbs_natCast];exact ay (kW q2) zo) hq);rw [vG q1] at HW1;rw [vG q2] at HW2;have HP:=zh ht;have d0:decide (b=0)=false:=by simp;omega
 clear sa q1 q2 ha hb ht;obtain ⟨q,Eq⟩:∃ q,a / b=q:=⟨_,rfl⟩;obtain ⟨r,Er⟩:∃ r,a%b=r:=⟨_,rfl⟩;rw [Eq] at HW1;rw [Er] at HW2;have ao9:Hid (∀ x y W,aT W x a→aT W y b→Calls Tryz.prog 171 #[x,y] W (jl W q r)):=zh (by rw [← Eq,← Er];exact Y4.out);rw [Eq,Er];clear Y4 Eq Er b0;unfold dX at *;generalize (⟨(Lib.itoa (a:Int)).toArray⟩:ByteArray)=ta at *;generalize (⟨(Lib.itoa (b:Int)).toArray⟩:ByteArray)=tb at *;generalize (⟨(Lib.itoa (q:Int)).toArray⟩:ByteArray)=tq at *;generalize (⟨(Lib.itoa (r:Int)).toArray⟩:ByteArray)=tr at *;go_enter Tryz.func102,Tryz.ntmps102
 go_wp2_with fail
 refine (HPR.out _).mono ?_;rintro e w1 ⟨p1,l1,c1,p2,l2,c2,rfl,hb1,hx,hy⟩;have HX:=zh hx;have HY:=zh hy;have HB1:=zh hb1;clear hx hy hb1
 go_upto_region 2 with fail
 obtain ⟨wx,EW,hz,X1,X2⟩:=al2 w1 #[aj p1 l1 c1,aC false] 234 #[aj p2 l2 c2,aC false] 234;rw [EW];clear EW;replace HX:=zh (HX.out.later hz);replace HY:=zh (HY.out.later hz);have HB2:=zh (Bt HB1.out hz);clear hz HB1;obtain ⟨bx,eb⟩:∃ y,w1.heap.size=y:=⟨_,rfl⟩;rw [eb] at X1 X2 ⊢;obtain ⟨Qz,Pp⟩:=X1.cl;obtain ⟨cX2,ZT⟩:=X2.cl;go_wp2_with fail
 refine (gM _ b _ HY.out).mono ?_;rintro e w2 ⟨rfl,rfl⟩;rw [d0];go_wp2_with fail
 refine (ao9.out _ _ _ HX.out HY.out).mono ?_;rintro e w3 ⟨v3,v4,rfl,hb3,hv3,hv4⟩;obtain ⟨p3,l3,c3,rfl⟩:=hv3.slice;obtain ⟨p4,l4,c4,rfl⟩:=hv4.slice;have HQ:=zh hv3;have HR:=zh hv4;have HB3:=zh (Bt HB2.out hb3);replace X1:=X1.bl hb3;replace X2:=X2.bl hb3;clear hv3 hv4 hb3 HX HY HB2 Qz Pp cX2 ZT;obtain ⟨Qz,Pp⟩:=X1.cl;obtain ⟨cX2,ZT⟩:=X2.cl;go_wp2_with fail
 refine (dM _ q false _ HQ.out).mono ?_;rintro e w4 ⟨v,rfl,hb4,hv⟩;obtain ⟨p5,l5,c5,rfl,hm5⟩:=id hv;have HI:=zh (hv.cast (show iZ q false=(q:Int) from rfl));have g3:decide (iZ q false<0)=false:=by unfold iZ;simp
 rw [g3] at HI ⊢;have Yp:=zh (Bt HB3.out hb4);replace HR:=zh (HR.out.later hb4);clear hv hm5 hb4 HB3 g3 Qz Pp cX2 ZT;go_wp2_with fail
 refine (HW1.out _ _ HI.out (HP.out.later Yp.out)).mono ?_;rintro e w5 ⟨rfl,hb5⟩;have Y6:=zh (Bt Yp.out hb5);replace HR:=zh (HR.out.later hb5);clear hb5 Yp HI;go_wp2_with fail
 refine (dM _ r false _ HR.out).mono ?_;rintro e w6 ⟨v,rfl,hb6,hv⟩;obtain ⟨p6,l6,c6,rfl,hm6⟩:=id hv;have HI:=zh (hv.cast (show iZ r false=(r:Int) from rfl));have g3:decide (iZ r false<0)=false:=by unfold iZ;simp
 rw [g3] at HI ⊢;have HB6:=zh (Bt Y6.out hb6);clear hv hm6 hb6 Y6 g3;go_wp2_with fail
 refine (HW2.out _ _ HI.out (HP.out.later HB6.out)).mono ?_;rintro e w7 ⟨rfl,mJ⟩;have hw:=Bt HB6.out mJ;go_wp2_with fail
 go_ret3
 exact ⟨rfl,hw⟩
end Go.Proofs.whole
namespace Go.Proofs.power
open Go Go.RowKit Go.SW Go.Num Go.Mem Go.Proofs Go.Dec Go.d9 Go.Proofs.whole
theorem Kn {a b:Nat}:((⟨(Lib.itoa (a:Int)).toArray⟩:ByteArray).toList == (⟨(Lib.itoa (b:Int)).toArray⟩:ByteArray).toList)=decide (a=b):=by
 rw [ByteArray.toList_eq,ByteArray.toList_eq]
 show (Lib.itoa (a:Int) == Lib.itoa (b:Int))=_
 by_cases h:a=b
 ·subst h;simp
 ·rw [decide_eq_false h];refine beq_eq_false_iff_ne.2 fun e=>h ?_;have:=FL e;omega
theorem xU (a k:Nat) (ha:mQ a=true) (hk:1≤k) (k12:k≤12) (w:World) (ht:iA.Pow w) :
  Calls Tryz.prog 103 #[dX (a:Int),Z I (k:Int)] w (fun e w'=>e= ah (aF #[dX (gX k a:Nat),aC (decide (gX k a^k=a)),Z I 0])∧Below w.heap.size w w'):=by
 have hle:=(ku hk a).1;have hro:mQ (gX k a)=true:=rA ha (qj hk);have HR:=zh (fun W hp=>DI a k ha hk k12 W hp);have Lc:=zh (fun W hp=>wm (gX k a) k hro zo W hp);rw [vG (rA ha hle)] at Lc;have he:((⟨(Lib.itoa ((gX k a^k:Nat):Int)).toArray⟩:ByteArray).toList == (⟨(Lib.itoa (a:Int)).toArray⟩:ByteArray).toList)=decide (gX k a^k=a):=Kn;have HP:=zh ht;clear hle hro ha ht;generalize decide (gX k a^k=a)=ex at *;generalize gX k a^k=rp at *;generalize gX k a=r at *;unfold dX at *;generalize (⟨(Lib.itoa (a:Int)).toArray⟩:ByteArray)=ta at *;generalize (⟨(Lib.itoa (rp:Int)).toArray⟩:ByteArray)=tp at *;generalize (⟨(Lib.itoa (r:Int)).toArray⟩:ByteArray)=tr at *;go_enter Tryz.func103,Tryz.ntmps103
 go_wp2_with fail
 refine (HR.out _ HP.out).mono ?_;rintro e w1 ⟨rfl,hb1⟩;have HB1:=zh hb1;clear hb1;go_wp2_with fail
 refine (Lc.out _ (HP.out.later HB1.out)).mono ?_;rintro e w2 ⟨rfl,hb2⟩;have hw:=Bt HB1.out hb2;go_wp2_with fail
 go_ret3
 exact ⟨by rw [← he];rfl,hw⟩
theorem Pt (c:Nat):Lib.itoa ((10^c:Nat):Int)=49::Lib.repeatL [48] c:=by
 have h:=Dm c 1 0 zo (Nat.pow_pos zo);rw [jE,gL,iC (u:=1) zo,zy] at h;have hr:=Lib.repeatL_replicate 48 1 c;rw [Nat.mul_one] at hr;rw [show ([48]:List UInt8)=bP 1 48 from rfl,hr];exact h
theorem pW (c:Nat) (hc:c≤1000) (w:World) :
  Calls Tryz.prog 101 #[Z I (c:Int)] w (fun e w'=>e= ah (dX (10^c:Nat))∧Below w.heap.size w w'):=by
 have H:=zh (fun W=>Tryz.strings_Repeat ⟨#[48]⟩ c W zo (by rw [show (⟨#[48]⟩:ByteArray).size=1 from rfl];omega))
 have e:(⟨(Lib.itoa ((10^c:Nat):Int)).toArray⟩:ByteArray)=(⟨#[49]⟩:ByteArray)++⟨(Lib.repeatL [48] c).toArray⟩:=by
  rw [Pt];apply ByteArray.ext
  simp
 unfold dX;rw [e];clear e
 have hs:(⟨(Lib.repeatL [48] c).toArray⟩:ByteArray).size≤1000:=by
  show (Lib.repeatL [48] c).length≤1000
  rw [Lib.repeatL_length];simp
  omega
 generalize (⟨(Lib.repeatL [48] c).toArray⟩:ByteArray)=t at *;go_enter Tryz.func101,Tryz.ntmps101
 go_wp2_with fail
 refine (H.out _).mono ?_;rintro e w1 ⟨rfl,hb1⟩;go_wp2_with fail
 go_ret
 exact ⟨rfl,hb1⟩
def Mr (n:Nat) (up:Bool):Int × Int:=if n≤1000000000000000000 then ((n:Int)+(if up then 1 else 0),0) else (0,6)
theorem zY (n:Nat) (up:Bool) (hn:mQ n=true) (w:World) (he:Er w) :
  Calls Tryz.prog 104 #[dX (n:Int),aC up] w (fun e w'=>e= ah (aF #[Z I (Mr n up).1,Z I (Mr n up).2])∧Below w.heap.size w w'):=by
 have H:=zh (fun W h=>Yb n hn W h);have HE:=zh he;clear hn he;unfold dX WI at *;generalize (⟨(Lib.itoa (n:Int)).toArray⟩:ByteArray)=t at *;unfold Mr
 by_cases h1:n<9223372036854775808
 ·simp only [if_pos h1] at H
  by_cases h2:n≤1000000000000000000
  ·have g:decide ((1000000000000000000:Int)<(n:Int))=false:=by simp;omega
   simp only [if_pos h2];cases up
   all_goals
    go_enter Tryz.func104,Tryz.ntmps104
    go_wp2_with fail
    refine (H.out _ HE.out).mono ?_;rintro e w1 ⟨rfl,hb1⟩;go_wp2_with fail
    go_ret2
    exact ⟨by simp,hb1⟩
  ·have g:decide ((1000000000000000000:Int)<(n:Int))=true:=by simp;omega
   simp only [if_neg h2];go_enter Tryz.func104,Tryz.ntmps104
   go_wp2_with fail
   refine (H.out _ HE.out).mono ?_;rintro e w1 ⟨rfl,hb1⟩;go_wp2_with fail
   go_ret2
   exact ⟨rfl,hb1⟩
 ·simp only [if_neg h1] at H;have h2:¬ n≤1000000000000000000:=by omega
  simp only [if_neg h2];go_enter Tryz.func104,Tryz.ntmps104
  go_wp2_with fail
  refine (H.out _ HE.out).mono ?_;rintro e w1 ⟨rfl,hb1⟩;go_wp2_with fail
  go_ret2
  exact ⟨rfl,hb1⟩
end Go.Proofs.power
