/- Lemmas for the proof. No condition. -/
import Derived.Test.YtneajphgfdlmhaaGreatDoorRB01
import Derived.Test.YtneajphgfdlmhaaGreatDoorRB02
import Derived.Test.YtneajphgfdlmhaaGreatDoorRB03
import Derived.Test.YtneajphgfdlmhaaGreatDoorRB04
import Derived.Test.YtneajphgfdlmhaaGreatDoorRB05
import Derived.Test.YtneajphgfdlmhaaGreatDoorRB06
import Derived.Test.YtneajphgfdlmhaaGreatDoorRB07
import Derived.Laws.EntriesVeiled
set_option linter.unusedVariables false
set_option linter.unusedSimpArgs false
set_option maxRecDepth 100000
set_option maxHeartbeats 16000000
namespace Go.Proofs.whole
open Go Go.RowKit Go.SW Go.Num Go.Mem Go.Proofs Go.Dec
theorem RO {y s:Nat} (hy:sz 1000000000 y≤s):∀ i,sz 1000000000 (y^i)≤s*i+1
 | 0=>bH zo _ _ (by rw [Nat.mul_zero,Nat.pow_zero];decide)
 | i+1=>by
  rw [Nat.pow_succ];have h:=oM (B:=1000000000) zo (y^i) y;have:=RO hy i;rw [Nat.mul_succ];omega
theorem az5 {l:Nat}:sz 1000000000 (10^l)≤l+1:=by
 refine bH zo _ _ ?_;have h1:10^l≤1000000000^l:=Nat.pow_le_pow_left zo l;have h2:1000000000^l<1000000000^(l+1):=Nat.pow_lt_pow_right zo zo;omega
theorem zI (x:Value) (a k:Nat) (w:World) (hx:aT w x a) (hk:1≤k) (k12:k≤12) (hl:(Lib.decDigits a).length≤10000) (ha:sz 1000000000 a≤10000) (ht:jw.Pow w) :
  Calls Tryz.prog 278 #[x,.int .i64 (k:Int)] w (fun e w'=>∃ v,e= .returned v∧Below w.heap.size w w'∧aT w' v (iH k a)):=by
 obtain ⟨pa,la,ca,rfl⟩:=hx.slice
 rcases Nat.eq_zero_or_pos a with rfl|ha0
 ·have hr:iH k 0=0:=Nat.le_antisymm (PN hk (by rw [Nat.zero_add,Nat.one_pow];omega)) (Nat.zero_le _);rw [hr];have HX:=zh hx;clear hx hl ha ht hr;go_enter Tryz.func278,Tryz.ntmps278
  go_wp2_with fail
  refine (jH _ 0 _ HX.out).mono ?_;rintro e w1 ⟨rfl,rfl⟩;go_wp2_with fail
  go_ret
  exact ⟨_,rfl,Below.refl _ _,aT.zero _⟩
 ·have W0:∀ z:Int,0≤z∧z≤1000000000→IntKind.i64.wrap z=z:=fun z h=>by unfold IntKind.wrap;simp [IntKind.bits,IntKind.signed];omega
  have d0:decide (a=0)=false:=by simp;omega
  have hs:=SI (k:=k) (m:=a) hk (IQ a);obtain ⟨l,El⟩:∃ l,Hid ((Lib.decDigits a).length=l):=⟨_,zh rfl⟩;have HLEN:=zh (fun W (hW:Below w.heap.size w W)=>oG _ a W (hx.later hW) (Nat.le_trans ha zo) (ht.later hW));rw [El.out] at hs hl HLEN;obtain ⟨j,Ej⟩:∃ j,l / k=j:=⟨_,rfl⟩;have hjl:j≤l:=by rw [← Ej];exact Nat.div_le_self _ _
  have t1:(l:Int).tdiv (k:Int)=(j:Int):=by rw [Int.tdiv_eq_ediv_of_nonneg zo,← Ej];rfl
  rw [Ej] at hs;have kz:¬ k=0:=by omega
  have kz2:(k:Int)≠0:=by omega
  have kz3:((k:Int) == 0)=false:=by simp;omega
  have u1:=W0 (j:Int) zo;have u2:=W0 ((j:Int)+1) zo;obtain ⟨m,hm⟩:∃ m,Hid (k=m+1):=⟨k - 1,zh zo⟩;have e1:(k:Int) - 1=(m:Int):=by have:=hm.out;omega
  have bO0:m≤11:=by have:=hm.out;omega
  have u3:=W0 (m:Int) zo;have u4:IntKind.u64.wrap (m:Int)=(m:Int):=by unfold IntKind.wrap;simp [IntKind.bits,IntKind.signed];omega
  have u5:IntKind.u32.wrap (k:Int)=(k:Int):=by unfold IntKind.wrap;simp [IntKind.bits,IntKind.signed];omega
  have by3:=zh (fun W=>vg (j+1) zo W);have HX:=zh hx;have HA:=zh ha;have HS:=zh hs;have HA0:=zh ha0;have HRP:Hid (1≤iH k a):=zh (zZ hk (by rw [Nat.one_pow];exact ha0));clear hx ha hs ht W0 Ej;go_enter Tryz.func278,Tryz.ntmps278
  go_wp2_with fail
  refine (jH _ a _ HX.out).mono ?_;rintro e w1 ⟨rfl,rfl⟩;rw [d0];go_wp2_with fail
  refine (HLEN.out _ (Below.refl _ _)).mono ?_;rintro e w2 ⟨rfl,hb2⟩;go_wp2_with fail
  refine (by3.out _).mono ?_;rintro e w3 ⟨v,rfl,hb3,hv⟩;obtain ⟨pv,lv,cv,rfl⟩:=hv.slice;have HV:=zh hv;have HB:=zh (Bt hb2 hb3);clear hv hb2 hb3;go_wp2_with fail
  go_loopw [5] (fun xv wr=>∃ y:Nat,Hid (aT wr xv y)∧Hid (iH k a≤y∧y≤10^(j+1))∧Below w.heap.size w wr) (fun xv wr=>He wr xv)
  case atStart=>exact ⟨_,HV,zh ⟨HS.out,Nat.le_refl _⟩,HB.out⟩
  case round =>
   obtain ⟨y,HY,HR,hb⟩:=hrel;obtain ⟨py,ly,cy,rfl⟩:=HY.out.slice;have hy0:0<y:=by have:=HR.out.1;have:=HRP.out;omega
   have hys:sz 1000000000 y≤10002:=Nat.le_trans (jO zo HR.out.2) (Nat.le_trans az5 zo);have Uz:=zh (Pg _ y m wr HY.out zo (fun i hi=>Nat.le_trans (RO hys i) (by have:=Nat.mul_le_mul_left 10002 (show i≤12 by omega);omega)) (Nat.le_trans hys zo));have HYS:=zh hys;have HY0:=zh hy0;have HBr:=zh hb;clear hb hys hy0;go_wp2_with fail
   refine Uz.out.mono ?_;rintro e w4 ⟨v4,rfl,hb4,hv4⟩;obtain ⟨p4,l4,c4,rfl⟩:=hv4.slice;have HV4:=zh hv4;have HB4:=zh hb4;clear hv4 hb4 Uz;have HD:=zh (ji _ _ a (y^m) _ (HX.out.later (Bt HBr.out HB4.out)) HV4.out (Nat.pow_pos HY0.out) (Nat.le_trans HA.out zo));go_wp2_with fail
   refine HD.out.mono ?_;rintro e w5 ⟨v5,v6,rfl,hb5,hv5, -⟩;obtain ⟨p5,l5,c5,rfl⟩:=hv5.slice;have HV5:=zh hv5;have HB5:=zh (Bt HB4.out hb5);clear hv5 hb5 HD HV4 HB4;go_wp2_with fail
   refine (pF m _ zo).mono ?_;rintro e w6 ⟨v7,rfl,hb6,hv6⟩;obtain ⟨p6,l6,c6,rfl⟩:=hv6.slice;have sm:sz 1000000000 m≤2:=bH zo 2 _ zo;have HM:=zh (lW _ _ y m _ (HY.out.later (Bt HB5.out hb6)) hv6 (Nat.le_trans HYS.out zo) (Nat.le_trans sm zo));have bk0:=zh (HV5.out.later hb6);have HB6:=zh (Bt HB5.out hb6);clear hv6 hb6 HV5 HB5;go_wp2_with fail
   refine HM.out.mono ?_;rintro e w7 ⟨v8,rfl,qZ,hv7⟩;obtain ⟨p7,l7,c7,rfl⟩:=hv7.slice
   have s7:sz 1000000000 (y*m)≤10100:=by
    have h1:=oM (B:=1000000000) zo y m;have h2:=HYS.out;omega
   have s5:sz 1000000000 (a / y^m)≤10000:=Nat.le_trans (jO zo (Nat.div_le_self _ _)) HA.out;have HP:=zh (DK _ _ (y*m) (a / y^m) _ hv7 (bk0.out.later qZ) (Nat.le_trans s7 zo) (Nat.le_trans s5 zo))
   have bk5:Hid (sz 1000000000 (y*m+a / y^m)≤1099511627776):=zh (by
    have:=Bh (B:=1000000000) zo (y*m) (a / y^m);omega)
   have HB7:=zh (Bt HB6.out qZ);clear hv7 qZ HM bk0 HB6 s7 s5;go_wp2_with fail
   refine HP.out.mono ?_;rintro e w8 ⟨v9,rfl,Bd,Tt⟩;obtain ⟨p8,l8,c8,rfl⟩:=Tt.slice;have HSH:=zh (zD _ _ k _ Tt bk5.out zo zo);have HB8:=zh (Bt HB7.out Bd);clear Tt Bd HP bk5 HB7;have en:(y*m+a / y^m) / k=SK k a y:=by unfold SK;rw [show k - 1=m by have:=hm.out;omega]
   rw [en] at HSH;obtain ⟨z,Ez⟩:∃ z,Hid (SK k a y=z):=⟨_,zh rfl⟩;rw [Ez.out] at HSH;clear en;go_wp2_with fail
   refine HSH.out.mono ?_;rintro e w9 ⟨v10,rfl,DW,hv9⟩;obtain ⟨p9,l9,c9,rfl⟩:=hv9.slice;have HV9:=zh hv9;have HB9:=zh (Bt HB8.out DW);have HCM:=zh (lF _ _ z y _ hv9 (HY.out.later (Bt HB8.out DW)));clear hv9 DW HSH HB8;go_wp2_with fail
   refine HCM.out.mono ?_;rintro e Jw ⟨rfl,Dl⟩;have aL9:=zh (Bt HB9.out Dl);have bk4:=zh (HV9.out.later Dl);have HYZ:=zh (HY.out.later aL9.out);clear HCM HB9 HV9 Dl
   rcases Nat.lt_or_ge z y with hlt|hge
   ·rw [ug hlt];have hz:=Bt HBr.out aL9.out;go_wp2_with fail
    go_roundw
    case rel=>exact ⟨z,bk4,zh ⟨by rw [← Ez.out];exact an2 hk HY0.out,by have:=HR.out.2;omega⟩,hz⟩
    case measure=>rw [wK bk4.out,wK HY.out];exact hlt
   ·have g:decide ((0:Int)≤yF z y)=true:=by
     rcases Nat.eq_or_lt_of_le hge with h|h
     ·rw [h,vD];rfl
     ·rw [rY h];rfl
    have hw:=Bt HBr.out aL9.out;have HE:Hid (y=iH k a):=zh (ZE hk HY0.out HR.out.1 (by rw [Ez.out];exact hge));go_wp2_with fail
    go_ret
    exact ⟨_,rfl,hw,by rw [← HE.out];exact HYZ.out⟩
end Go.Proofs.whole
namespace Go.Proofs.whole
open Go Go.RowKit Go.SW Go.Num Go.Mem Go.Proofs Go.Dec Go.jQ
def Dz (z:Int):Value:=if nC z.natAbs=true then .tuple #[dP z,.int .i64 0] else .tuple #[.string ⟨#[]⟩,.int .i64 6]
theorem nP (v:Value) (z:Int) (w:World) (h:gN w v z) (kz:sz 1000000000 z.natAbs≤1099511627776) (ht:jw.Pow w) :
  Calls Tryz.prog 255 #[v] w (fun e w'=>e= .returned (Dz z)∧Below w.heap.size w w'):=by
 obtain ⟨pa,l,ca,rfl,hm⟩:=h
 have hlen:((1+(Lib.decDigits z.natAbs).length:Nat):Int)≤9223372036854775807:=by
  have h1:=wT (bg (B:=1000000000) zo z.natAbs);rw [aR zo] at h1;unfold sz at kz;omega
 have ax8:¬ 9223372036854775807<1+(Lib.decDigits z.natAbs).length:=by omega
 have HLE:=zh (fun W (hW:Below w.heap.size w W)=>oG _ z.natAbs W (hm.later hW) kz (ht.later hW));have HDI:=zh (fun W (hW:Below w.heap.size w W)=>uV _ z.natAbs W (hm.later hW) kz (ht.later hW));unfold Dz;clear hm kz ht hlen
 rcases Nat.lt_or_ge 600 (Lib.decDigits z.natAbs).length with hb|hb
 ·rw [if_neg (by rw [Sz hb];decide)];have g:decide ((600:Int)<((Lib.decDigits z.natAbs).length:Int))=true:=by simp;omega
  clear hb ax8;generalize (Lib.decDigits z.natAbs).length=n at *;generalize decide (z<0)=b at *;go_enter Tryz.func255,Tryz.ntmps255
  go_wp2_with fail
  refine (HLE.out _ au).mono ?_;rintro e w1 ⟨rfl,hb1⟩;have hw:=Bt (show Below w.heap.size w (w.alloc (.cells #[.slice pa l ca,.bool b] 257)) from au) hb1;go_wp2_with fail
  go_ret2
  exact ⟨rfl,hw⟩
 ·rw [if_pos (iN.2 hb)];have g:decide ((600:Int)<((Lib.decDigits z.natAbs).length:Int))=false:=by simp;omega
  by_cases hz:z<0
  ·have e:dP z= .string ⟨(45::Lib.decDigits z.natAbs).toArray⟩:=by unfold dP Lib.itoa;rw [if_pos hz]
   rw [e,decide_eq_true hz];clear e hz hb;go_enter Tryz.func255,Tryz.ntmps255
   go_wp2_with fail
   refine (HLE.out _ au).mono ?_;rintro e w1 ⟨rfl,hb1⟩;have hx:=ah.later (ah.new w #[.slice pa l ca,.bool true] 257) hb1;have cx:=hx.cell;have lx:=hx.lt;have HW:=zh (Bt (show Below w.heap.size w (w.alloc (.cells #[.slice pa l ca,.bool true] 257)) from au) hb1);go_wp2_with fail
   refine (HDI.out _ HW.out).mono ?_;rintro e w2 ⟨rfl,hb2⟩;have hw:=Bt HW.out hb2;go_wp2_with fail
   go_ret2
   exact ⟨rfl,hw⟩
  ·have e:dP z= .string ⟨(Lib.decDigits z.natAbs).toArray⟩:=by unfold dP Lib.itoa;rw [if_neg hz,show z.toNat=z.natAbs by omega]
   rw [e,decide_eq_false hz];clear e hz hb;go_enter Tryz.func255,Tryz.ntmps255
   go_wp2_with fail
   refine (HLE.out _ au).mono ?_;rintro e w1 ⟨rfl,hb1⟩;have hx:=ah.later (ah.new w #[.slice pa l ca,.bool false] 257) hb1;have cx:=hx.cell;have lx:=hx.lt;have HW:=zh (Bt (show Below w.heap.size w (w.alloc (.cells #[.slice pa l ca,.bool false] 257)) from au) hb1);go_wp2_with fail
   refine (HDI.out _ HW.out).mono ?_;rintro e w2 ⟨rfl,hb2⟩;have hw:=Bt HW.out hb2;go_wp2_with fail
   go_ret2
   exact ⟨rfl,hw⟩
theorem uj {a b:Nat} (h:nC b=true) (hab:a≤b):nC a=true:=by
 unfold nC at *;have:=of_decide_eq_true h;exact decide_eq_true zo
theorem sF {k a:Nat} (hk:1≤k):iH k a≤a:=by
 have h:=(nY hk a).1
 rcases Nat.eq_zero_or_pos (iH k a) with h0|h0
 ·omega
 ·have:=Nat.le_self_pow (by omega:k≠0) (iH k a);omega
theorem wF {a:Nat} (h:nC a=true):Dz (a:Int)= .tuple #[dP (a:Int),.int .i64 0]:=by
 unfold Dz;rw [Int.natAbs_natCast,if_pos h]
theorem Oh (a k:Nat) (ha:nC a=true) (hk:1≤k) (k12:k≤12) (w:World) (ht:jw.Pow w) :
  Calls Tryz.prog 232 #[dP (a:Int),.int .i64 (k:Int)] w (fun e w'=>e= .returned (.tuple #[dP (iH k a:Nat),.int .i64 0])∧Below w.heap.size w w'):=by
 have hd:(Lib.decDigits a).length≤600:=iN.1 ha;have hs:=nN ha;have hro:nC (iH k a)=true:=uj ha (sF hk);have HR:=zh (fun W=>zK (a:Int) (by rw [Int.natAbs_natCast];exact hd) W);have HRT:=zh (fun x W hx hp=>zI x a k W hx hk k12 zo zo hp);have Ro:=zh (fun v W h hp=>nP v (iH k a:Nat) W h (by rw [Int.natAbs_natCast];exact Nat.le_trans (nN hro) zo) hp);rw [wF hro] at Ro;have HP:=zh ht;have g0:decide ((a:Int)<0)=false:=by simp
 have g1:decide ((k:Int)<1)=false:=by simp;omega
 have g2:decide ((12:Int)<(k:Int))=false:=by simp;omega
 clear hd hs hro ha ht;obtain ⟨r,Er⟩:∃ r,iH k a=r:=⟨_,rfl⟩;rw [Er] at HRT Ro ⊢;clear Er;unfold dP at HR Ro ⊢;generalize (⟨(Lib.itoa (a:Int)).toArray⟩:ByteArray)=ta at *;generalize (⟨(Lib.itoa (r:Int)).toArray⟩:ByteArray)=tr at *;go_enter Tryz.func232,Tryz.ntmps232
 go_wp2_with fail
 refine (HR.out _).mono ?_;rintro e w1 ⟨v,rfl,hb1,hv⟩;obtain ⟨pa,l,ca,rfl,hm⟩:=hv;rw [Int.natAbs_natCast] at hm;rw [g0];have HM:=zh hm;have HB1:=zh hb1;clear hm hb1;go_wp2_with fail
 have hb2:Below w1.heap.size w1 (w1.alloc (.cells #[.slice pa l ca,.bool false] 257)):=au;refine (HRT.out _ _ (HM.out.later hb2) (HP.out.later (Bt HB1.out hb2))).mono ?_;rintro e w2 ⟨v,rfl,hb3,hv⟩;obtain ⟨p2,l2,c2,rfl⟩:=hv.slice;have HM2:=zh hv;have HB2:=zh (Bt HB1.out (Bt hb2 hb3));clear hv hb2 hb3;go_wp2_with fail
 refine (iy _ r false _ HM2.out).mono ?_;rintro e w3 ⟨v,rfl,hb4,hv⟩;obtain ⟨p3,l3,c3,rfl,hm3⟩:=id hv;have HI:=zh (hv.cast (show kM r false=(r:Int) from rfl));have HB3:=zh (Bt HB2.out hb4);have g3:decide (kM r false<0)=false:=by unfold kM;simp
 rw [g3] at HI ⊢;clear hv hm3 hb4;go_wp2_with fail
 refine (Ro.out _ _ HI.out (HP.out.later HB3.out)).mono ?_;rintro e w4 ⟨rfl,hb5⟩;have hw:=Bt HB3.out hb5;go_wp2_with fail
 go_ret2
 exact ⟨rfl,hw⟩
theorem zu (a n:Nat) (ha:nC a=true) (n40:n≤40) (w:World) (ht:jw.Pow w) :
  Calls Tryz.prog 200 #[dP (a:Int),.int .i64 (n:Int)] w (fun e w'=>e= .returned (Dz (a^n:Nat))∧Below w.heap.size w w'):=by
 have hd:(Lib.decDigits a).length≤600:=iN.1 ha;have hs:=nN ha;have hp:∀ i,i≤n→sz 1000000000 (a^i)≤10000:=fun i hi=>Nat.le_trans (RO hs i) (by have:=Nat.mul_le_mul_left 67 (show i≤40 by omega);omega);have HR:=zh (fun W=>zK (a:Int) (by rw [Int.natAbs_natCast];exact hd) W);have HRT:=zh (fun x W hx=>Pg x a n W hx zo (fun i hi=>Nat.le_trans (hp i hi) zo) zo);have Ro:=zh (fun v W h hq=>nP v (a^n:Nat) W h (by rw [Int.natAbs_natCast];exact Nat.le_trans (hp n (Nat.le_refl _)) zo) hq);have HP:=zh ht;have g0:decide ((a:Int)<0)=false:=by simp
 have g1:decide ((n:Int)<0)=false:=by simp
 have g2:decide ((40:Int)<(n:Int))=false:=by simp;omega
 clear hd hs hp ha ht;obtain ⟨r,Er⟩:∃ r,a^n=r:=⟨_,rfl⟩;rw [Er] at HRT Ro ⊢;clear Er
 obtain ⟨tr,kr,Ew⟩:∃ tr kr,Dz (r:Int)= .tuple #[.string tr,.int .i64 kr]:=by
  unfold Dz dP;split
  ·exact ⟨_,_,rfl⟩
  ·exact ⟨_,_,rfl⟩
 rw [Ew] at Ro ⊢;clear Ew;unfold dP at HR ⊢;generalize (⟨(Lib.itoa (a:Int)).toArray⟩:ByteArray)=ta at *;go_enter Tryz.func200,Tryz.ntmps200
 go_wp2_with fail
 refine (HR.out _).mono ?_;rintro e w1 ⟨v,rfl,hb1,hv⟩;obtain ⟨pa,l,ca,rfl,hm⟩:=hv;rw [Int.natAbs_natCast] at hm;rw [g0];have HM:=zh hm;have HB1:=zh hb1;clear hm hb1;go_wp2_with fail
 obtain ⟨wx,EW,hz,X⟩:=pJ w1 #[.slice pa l ca,.bool false] 257;rw [EW];clear EW;replace HM:=zh (HM.out.later hz);have HB2:=zh (Bt HB1.out hz);clear hz HB1;obtain ⟨bx,eb⟩:∃ y,w1.heap.size=y:=⟨_,rfl⟩;rw [eb] at X ⊢;have cX:=X.out.cell;have lX:=X.out.lt;refine aC [(.pure,0),(.read,1),(.pure,2),(.pure,4),(.read,5),(.ext,3),(.pure,6),(.pure,7),(.pure,8),(.pure,9),(.pure,10),(.ext,11),(.ext,12),(.pure,13),(.pure,14),(.fin,15),(.fin,16)] zk zk zR zP ?_;refine zW ?_;refine aL rfl rfl (fun we hbe J hJ=>?_);go_simp;have h1:Below wx.heap.size wx we:=au;refine (HRT.out _ _ (HM.out.later h1)).mono ?_;rintro e w2 ⟨v,rfl,hb2,hv⟩;obtain ⟨p2,l2,c2,rfl⟩:=hv.slice;refine hJ _ _ hb2 ?_;clear hJ J;have HM2:=zh hv;have h2:=Bt h1 hb2;clear hv h1 hbe hb2
 repeat (first|(refine rQ rfl rfl (fun J hJ=>?_);go_simp;refine hJ _ ?_;clear hJ J)|(refine xq rfl rfl rfl (fun J hJ=>?_);go_simp;refine hJ _ ?_;clear hJ J))
 refine aL rfl rfl (fun we hbe J hJ=>?_);go_simp;have h3:Below w2.heap.size w2 we:=au;refine (iy _ r false _ (HM2.out.later h3)).mono ?_;rintro e w3 ⟨v,rfl,hb3,hv⟩;obtain ⟨p3,l3,c3,rfl,hm3⟩:=id hv;have HI:=zh (hv.cast (show kM r false=(r:Int) from rfl));have g3:decide (kM r false<0)=false:=by unfold kM;simp
 rw [g3] at HI ⊢;refine hJ _ _ hb3 ?_;clear hJ J;have h4:=Bt h2 (Bt h3 hb3);clear hv hm3 hb3 h3 h2 hbe
 repeat (first|(refine rQ rfl rfl (fun J hJ=>?_);go_simp;refine hJ _ ?_;clear hJ J)|(refine xq rfl rfl rfl (fun J hJ=>?_);go_simp;refine hJ _ ?_;clear hJ J))
 refine aL rfl rfl (fun we hbe J hJ=>?_);go_simp;have h5:Below w3.heap.size w3 we:=au;refine (Ro.out _ _ (HI.out.later h5) (HP.out.later (Bt HB2.out (Bt h4 h5)))).mono ?_;rintro e w4 ⟨rfl,hb4⟩;refine hJ _ _ hb4 ?_;clear hJ J;have h6:=Bt h4 (Bt h5 hb4);clear hb4 h5 h4 hbe
 repeat (first|(refine rQ rfl rfl (fun J hJ=>?_);go_simp;refine hJ _ ?_;clear hJ J)|(refine xq rfl rfl rfl (fun J hJ=>?_);go_simp;refine hJ _ ?_;clear hJ J))
 refine dK [_,_] rfl (fun wf hbf=>?_);have hw:Below w.heap.size w wf:=Bt HB2.out (Bt h6 au);go_wp2_with fail
 go_ret2
 exact ⟨rfl,hw⟩
end Go.Proofs.whole
namespace Go.Mem
open Go Go.RowKit
section
variable {P:Program} {fn:Func} {R:Ending→World→Prop} {w:World} {tmps:Array Value}
theorem OX {p q u:Tmp} {ty Rk:TypeId} (h:fn.results=#[.cell p ty,.cell q Rk,.tmp u]) :
  (results fn tmps).run P w=((asAddr (tmps.getD p undef)).run P w).andThen fun a w₁=>((loadVar ty a).run P w₁).andThen fun v w₂=>((asAddr (tmps.getD q undef)).run P w₂).andThen fun a' w₃=>((loadVar Rk a').run P w₃).andThen fun v' w₄=>.ok (.tuple #[v,v',tmps.getD u undef]) w₄:=by
 simp only [results,h];simp [Sem.run_bind,Result.andThen]
theorem MO {p q u:Tmp} {ty Rk t t2:TypeId} {g g2:Nat} {cs cs2:Array Value} {d d2:TypeDesc} (h:fn.results=#[.cell p ty,.cell q Rk,.tmp u])
  (hp:tmps.getD p undef= .pointer (some ⟨g,0,none⟩)) (hg:ah w g cs t) (hu:P.underlying ty=some d) (hd:(match d with| .struct _| .array _ _=>true| _=>false)=true) (hi:(P.info? ty).map (·.size)=some cs.size)
  (hp2:tmps.getD q undef= .pointer (some ⟨g2,0,none⟩)) (hg2:ah w g2 cs2 t2) (hu2:P.underlying Rk=some d2) (hd2:(match d2 with| .struct _| .array _ _=>true| _=>false)=true) (hi2:(P.info? Rk).map (·.size)=some cs2.size)
  (k:R (.returned (.tuple #[.agg cs,.agg cs2,tmps.getD u undef])) w):bodyPost P fn R .ret { tmps:=tmps,defers:=[] } w:=by
 have e:(results fn tmps).run P w= .ok (.tuple #[.agg cs,.agg cs2,tmps.getD u undef]) w:=by
  rw [OX h,hp];simp only [asAddr,Sem.run_pure,Result.andThen_ok];rw [run_loadVar_row w g t ty cs (0,0) d hg hu hd hi];simp only [Result.andThen_ok];rw [hp2];simp only [asAddr,Sem.run_pure,Result.andThen_ok];rw [run_loadVar_row w g2 t2 Rk cs2 (0,0) d2 hg2 hu2 hd2 hi2];rfl
 refine bodyPost_ret e rfl k
end
end Go.Mem
namespace Go.Proofs.whole
open Go Go.RowKit Go.SW Go.Num Go.Mem Go.Proofs Go.Dec Go.jQ
theorem MZ (a b:Nat) (ha:(Lib.decDigits a).length≤600) (hb:(Lib.decDigits b).length≤600) (w:World) :
  Calls Tryz.prog 307 #[dP (a:Int),dP (b:Int)] w (fun e w'=>∃ p1 l1 c1 p2 l2 c2,e= .returned (.tuple #[.agg #[.slice p1 l1 c1,.bool false],.agg #[.slice p2 l2 c2,.bool false],.int .i64 0])∧Below w.heap.size w w'∧aT w' (.slice p1 l1 c1) a∧aT w' (.slice p2 l2 c2) b):=by
 have RA:Hid (∀ W,Calls Tryz.prog 254 #[dP (a:Int)] W (fun e w'=>∃ p l c,e= .returned (.tuple #[.agg #[.slice p l c,.bool false],.bool true])∧Below W.heap.size W w'∧aT w' (.slice p l c) a)):=zh fun W=>(zK (a:Int) (by rw [Int.natAbs_natCast];exact ha) W).mono fun e w' ⟨v,h1,h2,p,l,c,h3,h4⟩=>by
  rw [Int.natAbs_natCast] at h4;have g0:decide ((a:Int)<0)=false:=by simp
  rw [g0] at h3;exact ⟨p,l,c,by rw [h1,h3],h2,h4⟩
 have RB:Hid (∀ W,Calls Tryz.prog 254 #[dP (b:Int)] W (fun e w'=>∃ p l c,e= .returned (.tuple #[.agg #[.slice p l c,.bool false],.bool true])∧Below W.heap.size W w'∧aT w' (.slice p l c) b)):=zh fun W=>(zK (b:Int) (by rw [Int.natAbs_natCast];exact hb) W).mono fun e w' ⟨v,h1,h2,p,l,c,h3,h4⟩=>by
  rw [Int.natAbs_natCast] at h4;have g0:decide ((b:Int)<0)=false:=by simp
  rw [g0] at h3;exact ⟨p,l,c,by rw [h1,h3],h2,h4⟩
 clear ha hb;unfold dP at *;generalize (⟨(Lib.itoa (a:Int)).toArray⟩:ByteArray)=ta at *;generalize (⟨(Lib.itoa (b:Int)).toArray⟩:ByteArray)=tb at *;go_enter Tryz.func307,Tryz.ntmps307
 go_wp2_with fail
 obtain ⟨xW,EW,hz,X1,X2⟩:=uH w #[.slice none 0 0,.bool false] 257 #[.slice none 0 0,.bool false] 257;rw [EW];have hk2:=Bt (Below.refl _ _) hz;clear EW hz;refine (RA.out _).mono ?_;rintro e Fv ⟨p1,l1,c1,rfl,hb3,hm⟩;replace X1:=X1.bl hb3;replace X2:=X2.bl hb3;have hk5:=Bt hk2 hb3;clear hk2;have NX:=zh hm;clear hb3 hm;obtain ⟨aO,aN,aP⟩:=X1.clf;go_wp2_with fail
 clear aO aN aP;have hz:Below w.heap.size w ((Fv.setCell ⟨w.heap.size,0,none⟩ (.slice p1 l1 c1)).setCell ⟨w.heap.size,1,none⟩ (.bool false)):=au;obtain ⟨wq6,EW⟩:∃ y,((Fv.setCell ⟨w.heap.size,0,none⟩ (.slice p1 l1 c1)).setCell ⟨w.heap.size,1,none⟩ (.bool false))=y:=⟨_,rfl⟩;have nW:=((X1.out.set 0 (.slice p1 l1 c1)).set 1 (.bool false));have RJ:=((X2.out.setOther (a:=⟨w.heap.size,0,none⟩) (.slice p1 l1 c1) (by first|assumption|(simp;done)|(simp;omega))).setOther (a:=⟨w.heap.size,1,none⟩) (.bool false) (by first|assumption|(simp;done)|(simp;omega)));have tNX:=((NX.out.setOther X1.out zd 0 (.slice p1 l1 c1)).setOther (X1.out.set 0 (.slice p1 l1 c1)) zd 1 (.bool false));rw [EW] at nW;replace X1:Hid (ah wq6 (w.heap.size) #[.slice p1 l1 c1,.bool false] 257):=zh nW;clear nW;rw [EW] at RJ;replace X2:Hid (ah wq6 (w.heap.size+1) #[.slice none 0 0,.bool false] 257):=zh RJ;clear RJ
 rw [EW] at tNX;replace NX:=zh tNX;clear tNX;rw [EW] at hz ⊢;clear EW;clear hk5;have hk6:=hz;clear hz;refine (RB.out _).mono ?_;rintro e wc7 ⟨p2,l2,c2,rfl,qZ,hm⟩;replace X1:=X1.bl qZ;replace X2:=X2.bl qZ;replace NX:=zh (NX.out.later qZ);have hk9:=Bt hk6 qZ;clear hk6;have NY:=zh hm;clear qZ hm;obtain ⟨dI,dH,dO⟩:=X2.clf;have HK:=zh hk9;obtain ⟨wl,Ewl⟩:∃ y,y=wc7:=⟨_,rfl⟩;subst Ewl;have c1':=X1.out.cell;have l1':=X1.out.lt;have f1':=X1.out.free;have c2':=X2.out.cell;have l2':=X2.out.lt;have f2':=X2.out.free;go_wp2_with fail
 go_region
 go_wp2_with fail
 have hw:=HK.out;have hx1:=X1.out;have hx2:=X2.out;refine MO rfl rfl aH Tryz.underlying257 rfl zk rfl aH Tryz.underlying257 rfl zk ?_;exact ⟨_,_,_,_,_,_,rfl,au,aI,aI⟩
end Go.Proofs.whole
namespace Go.Proofs.whole
open Go Go.RowKit Go.SW Go.Num Go.Mem Go.Proofs Go.Dec
theorem Gt (v u:Value) (z y:Int) (w:World) (h:gN w v z) (h2:gN w u y) (kz:sz 1000000000 z.natAbs≤549755813888) (ky:sz 1000000000 y.natAbs≤549755813888) :
  Calls Tryz.prog 310 #[v,u] w (fun e w'=>∃ v,e= .returned v∧Below w.heap.size w w'∧gN w' v (z*y)):=by
 obtain ⟨Po,lH,Qp,rfl,H⟩:=h;replace H:=zh H;obtain ⟨bL5,lH2,bR0,rfl,H2⟩:=h2;replace H2:=zh H2;have KZ:=zh kz;have KY:=zh ky;clear kz ky;go_enter Tryz.func310,Tryz.ntmps310
 go_wp2_with fail
 refine aC [(.pure,0),(.read,1),(.pure,2),(.read,3),(.pure,5),(.read,6),(.pure,7),(.read,8),(.pure,9),(.ext,4),(.ext,10),(.fin,11)] zk zk zR zP ?_;refine zV ?_;refine aL rfl rfl (fun w1 hb1 J hJ=>?_);go_simp;have BR:=ah.later (ah.drew (ah.at2 _ _ _ _ _)) hb1;have bQ:=BR.cell;have bL:=BR.free;refine (lW _ _ z.natAbs y.natAbs _ aI aI (Nat.le_trans KZ.out zo) (Nat.le_trans KY.out zo)).mono ?_;rintro e v1 ⟨v,rfl,hc1,hv⟩;obtain ⟨aA5,lHS,aH4,rfl⟩:=hv.slice;have HS:=zh hv;clear hv;replace BR:=ah.later (BR) hc1;replace bQ:=BR.cell;replace bL:=BR.free;refine hJ _ _ hc1 ?_;clear hJ J;refine aL rfl rfl (fun w2 hb2 J hJ=>?_);go_simp;replace BR:=ah.later (BR) hb2;replace bQ:=BR.cell;replace bL:=BR.free;refine (iy _ (z.natAbs*y.natAbs) _ _ aI).mono ?_;rintro e v2 ⟨v,rfl,hc2,hv⟩;obtain ⟨aA4,lHT,aH3,rfl,HT⟩:=hv;replace HT:=zh HT
 replace BR:=ah.later (BR) hc2;replace bQ:=BR.cell;replace bL:=BR.free;refine hJ _ _ hc2 ?_;clear hJ J;refine dK [_] rfl (fun w5 hb5=>?_);replace BR:=ah.later (BR) hb5;replace bQ:=BR.cell;replace bL:=BR.free;go_wp2_with fail
 refine dG rfl rfl aH Tryz.underlying257 rfl zk ?_;exact ⟨_,rfl,au,(gN.iL aI).cast (Gl z y)⟩
end Go.Proofs.whole
namespace Go.Proofs.whole
open Go Go.RowKit Go.SW Go.Num Go.Mem Go.Proofs Go.Dec Go.jQ
theorem JK (a b:Nat) (ha:nC a=true) (hb:nC b=true) (w:World) (ht:jw.Pow w) :
  Calls Tryz.prog 277 #[.int .i64 2,dP (a:Int),dP (b:Int)] w (fun e w'=>e= .returned (Dz (a*b:Nat))∧Below w.heap.size w w'):=by
 have sa:=nN ha;have sb:=nN hb
 have sr:sz 1000000000 (a*b)≤1000:=by
  have h1:=oM (B:=1000000000) zo a b;have h2:=Bh (B:=1000000000) zo a b;omega
 have Yo:=zh (fun W=>MZ a b (iN.1 ha) (iN.1 hb) W);have HOP:=zh (fun v u W hv hu=>Gt v u (a:Int) (b:Int) W hv hu (by rw [Int.natAbs_natCast];omega) (by rw [Int.natAbs_natCast];omega));have Ro:=zh (fun v W h hq=>nP v (a*b:Nat) W h (by rw [Int.natAbs_natCast];omega) hq);have HP:=zh ht;clear sa sb sr ha hb ht;have e:(a:Int)*(b:Int)=((a*b:Nat):Int):=by simp
 rw [e] at HOP;have g0:decide ((a:Int)<0)=false:=by simp
 have g1:decide ((b:Int)<0)=false:=by simp
 have IA:Hid (∀ W p l c,aT W (.slice p l c) a→gN W (.agg #[.slice p l c,.bool false]) (a:Int)):=zh fun W p l c h=>⟨p,l,c,by rw [g0],by rw [Int.natAbs_natCast];exact h⟩;have IB:Hid (∀ W p l c,aT W (.slice p l c) b→gN W (.agg #[.slice p l c,.bool false]) (b:Int)):=zh fun W p l c h=>⟨p,l,c,by rw [g1],by rw [Int.natAbs_natCast];exact h⟩;clear e g0 g1;obtain ⟨r,Er⟩:∃ r,a*b=r:=⟨_,rfl⟩;rw [Er] at HOP Ro ⊢;clear Er
 obtain ⟨tr,kr,Ew⟩:∃ tr kr,Dz (r:Int)= .tuple #[.string tr,.int .i64 kr]:=by
  unfold Dz dP;split
  ·exact ⟨_,_,rfl⟩
  ·exact ⟨_,_,rfl⟩
 rw [Ew] at Ro ⊢;clear Ew;unfold dP at Yo ⊢;generalize (⟨(Lib.itoa (a:Int)).toArray⟩:ByteArray)=ta at *;generalize (⟨(Lib.itoa (b:Int)).toArray⟩:ByteArray)=tb at *;go_enter Tryz.func277,Tryz.ntmps277
 go_wp2_with fail
 refine (Yo.out _).mono ?_;rintro e w1 ⟨p1,l1,c1,p2,l2,c2,rfl,hb1,hx,hy⟩;have HX:=zh hx;have HY:=zh hy;have HB1:=zh hb1;clear hx hy hb1;go_wp2_with fail
 obtain ⟨wx,EW,hz,X1,X2,X3⟩:=Jy w1 #[.slice p1 l1 c1,.bool false] 257 #[.slice p2 l2 c2,.bool false] 257 #[.func (.func 308) #[] #[],.func (.func 309) #[] #[],.func (.func 310) #[] #[],.func (.func 311) #[] #[]] 308;rw [EW];clear EW;replace HX:=zh (HX.out.later hz);replace HY:=zh (HY.out.later hz);have HB2:=zh (Bt HB1.out hz);clear hz HB1;obtain ⟨bx,eb⟩:∃ y,w1.heap.size=y:=⟨_,rfl⟩;rw [eb] at X1 X2 X3 ⊢;have aO:=X1.out.cell;have aN:=X1.out.lt;have dI:=X2.out.cell;have dH:=X2.out.lt;have qo:=X3.out.cell;have qb:=X3.out.lt;refine aC [(.pure,0),(.pure,1),(.pure,2),(.read,3),(.read,4),(.read,5),(.ext,6),(.ext,7),(.pure,8),(.pure,9),(.fin,10),(.fin,11)] zk zk zR zP ?_;refine zV ?_;refine aL rfl rfl (fun we hbe J hJ=>?_);go_simp;have h1:Below wx.heap.size wx we:=au;refine (HOP.out _ _ _ (IA.out _ _ _ _ (HX.out.later h1)) (IB.out _ _ _ _ (HY.out.later h1))).mono ?_
 rintro e w2 ⟨v,rfl,hb2,hv⟩;obtain ⟨p3,l3,c3,rfl,hm3⟩:=id hv;have HI:=zh hv;generalize decide ((r:Int)<0)=br at *;refine hJ _ _ hb2 ?_;clear hJ J;have h2:=Bt h1 hb2;clear hv h1 hbe hb2 hm3;refine zV ?_;refine aL rfl rfl (fun we hbe J hJ=>?_);go_simp;have h5:Below w2.heap.size w2 we:=au;refine (Ro.out _ _ (HI.out.later h5) (HP.out.later (Bt HB2.out (Bt h2 h5)))).mono ?_;rintro e w4 ⟨rfl,hb4⟩;refine hJ _ _ hb4 ?_;clear hJ J;have h6:=Bt h2 (Bt h5 hb4);clear hb4 h5 h2 hbe;refine zV ?_;refine dK [_,_] rfl (fun wf hbf=>?_);have hw:Below w.heap.size w wf:=Bt HB2.out (Bt h6 au);go_wp2_with fail
 go_ret2
 exact ⟨rfl,hw⟩
theorem Ci (a b:Nat) (ha:nC a=true) (hb:nC b=true) (w:World) (ht:jw.Pow w) :
  Calls Tryz.prog 289 #[dP (a:Int),dP (b:Int)] w (fun e w'=>e= .returned (Dz (a*b:Nat))∧Below w.heap.size w w'):=by
 have H:=zh (JK a b ha hb w ht)
 obtain ⟨tr,kr,Ew⟩:∃ tr kr,Dz (a*b:Nat)= .tuple #[.string tr,.int .i64 kr]:=by
  unfold Dz dP;split
  ·exact ⟨_,_,rfl⟩
  ·exact ⟨_,_,rfl⟩
 rw [Ew] at H ⊢;clear Ew ha hb ht;unfold dP at *;generalize (⟨(Lib.itoa (a:Int)).toArray⟩:ByteArray)=ta at *;generalize (⟨(Lib.itoa (b:Int)).toArray⟩:ByteArray)=tb at *;go_enter Tryz.func289,Tryz.ntmps289
 go_wp2_with fail
 refine H.out.mono ?_;rintro e w1 ⟨rfl,hb1⟩;go_wp2_with fail
 go_ret2
 exact ⟨rfl,hb1⟩
theorem JL (a b:Nat) (ha:nC a=true) (hb:nC b=true) (w:World) (ht:jw.Pow w) :
  Calls Tryz.prog 277 #[.int .i64 0,dP (a:Int),dP (b:Int)] w (fun e w'=>e= .returned (Dz (a+b:Nat))∧Below w.heap.size w w'):=by
 have sa:=nN ha;have sb:=nN hb
 have sr:sz 1000000000 (a+b)≤1000:=by
  have h1:=oM (B:=1000000000) zo a b;have h2:=Bh (B:=1000000000) zo a b;omega
 have Yo:=zh (fun W=>MZ a b (iN.1 ha) (iN.1 hb) W);have HOP:=zh (fun v u W hv hu=>Bj v u (a:Int) (b:Int) W hv hu (by rw [Int.natAbs_natCast];omega) (by rw [Int.natAbs_natCast];omega));have Ro:=zh (fun v W h hq=>nP v (a+b:Nat) W h (by rw [Int.natAbs_natCast];omega) hq);have HP:=zh ht;clear sa sb sr ha hb ht;have e:(a:Int)+(b:Int)=((a+b:Nat):Int):=by simp
 rw [e] at HOP;have g0:decide ((a:Int)<0)=false:=by simp
 have g1:decide ((b:Int)<0)=false:=by simp
 have IA:Hid (∀ W p l c,aT W (.slice p l c) a→gN W (.agg #[.slice p l c,.bool false]) (a:Int)):=zh fun W p l c h=>⟨p,l,c,by rw [g0],by rw [Int.natAbs_natCast];exact h⟩;have IB:Hid (∀ W p l c,aT W (.slice p l c) b→gN W (.agg #[.slice p l c,.bool false]) (b:Int)):=zh fun W p l c h=>⟨p,l,c,by rw [g1],by rw [Int.natAbs_natCast];exact h⟩;clear e g0 g1;obtain ⟨r,Er⟩:∃ r,a+b=r:=⟨_,rfl⟩;rw [Er] at HOP Ro ⊢;clear Er
 obtain ⟨tr,kr,Ew⟩:∃ tr kr,Dz (r:Int)= .tuple #[.string tr,.int .i64 kr]:=by
  unfold Dz dP;split
  ·exact ⟨_,_,rfl⟩
  ·exact ⟨_,_,rfl⟩
 rw [Ew] at Ro ⊢;clear Ew;unfold dP at Yo ⊢;generalize (⟨(Lib.itoa (a:Int)).toArray⟩:ByteArray)=ta at *;generalize (⟨(Lib.itoa (b:Int)).toArray⟩:ByteArray)=tb at *;go_enter Tryz.func277,Tryz.ntmps277
 go_wp2_with fail
 refine (Yo.out _).mono ?_;rintro e w1 ⟨p1,l1,c1,p2,l2,c2,rfl,hb1,hx,hy⟩;have HX:=zh hx;have HY:=zh hy;have HB1:=zh hb1;clear hx hy hb1;go_wp2_with fail
 obtain ⟨wx,EW,hz,X1,X2,X3⟩:=Jy w1 #[.slice p1 l1 c1,.bool false] 257 #[.slice p2 l2 c2,.bool false] 257 #[.func (.func 308) #[] #[],.func (.func 309) #[] #[],.func (.func 310) #[] #[],.func (.func 311) #[] #[]] 308;rw [EW];clear EW;replace HX:=zh (HX.out.later hz);replace HY:=zh (HY.out.later hz);have HB2:=zh (Bt HB1.out hz);clear hz HB1;obtain ⟨bx,eb⟩:∃ y,w1.heap.size=y:=⟨_,rfl⟩;rw [eb] at X1 X2 X3 ⊢;have aO:=X1.out.cell;have aN:=X1.out.lt;have dI:=X2.out.cell;have dH:=X2.out.lt;have qo:=X3.out.cell;have qb:=X3.out.lt;refine aC [(.pure,0),(.pure,1),(.pure,2),(.read,3),(.read,4),(.read,5),(.ext,6),(.ext,7),(.pure,8),(.pure,9),(.fin,10),(.fin,11)] zk zk zR zP ?_;refine zV ?_;refine aL rfl rfl (fun we hbe J hJ=>?_);go_simp;have h1:Below wx.heap.size wx we:=au;refine (HOP.out _ _ _ (IA.out _ _ _ _ (HX.out.later h1)) (IB.out _ _ _ _ (HY.out.later h1))).mono ?_
 rintro e w2 ⟨v,rfl,hb2,hv⟩;obtain ⟨p3,l3,c3,rfl,hm3⟩:=id hv;have HI:=zh hv;generalize decide ((r:Int)<0)=br at *;refine hJ _ _ hb2 ?_;clear hJ J;have h2:=Bt h1 hb2;clear hv h1 hbe hb2 hm3;refine zV ?_;refine aL rfl rfl (fun we hbe J hJ=>?_);go_simp;have h5:Below w2.heap.size w2 we:=au;refine (Ro.out _ _ (HI.out.later h5) (HP.out.later (Bt HB2.out (Bt h2 h5)))).mono ?_;rintro e w4 ⟨rfl,hb4⟩;refine hJ _ _ hb4 ?_;clear hJ J;have h6:=Bt h2 (Bt h5 hb4);clear hb4 h5 h2 hbe;refine zV ?_;refine dK [_,_] rfl (fun wf hbf=>?_);have hw:Below w.heap.size w wf:=Bt HB2.out (Bt h6 au);go_wp2_with fail
 go_ret2
 exact ⟨rfl,hw⟩
theorem Jv (a b:Nat) (ha:nC a=true) (hb:nC b=true) (w:World) (ht:jw.Pow w) :
  Calls Tryz.prog 231 #[dP (a:Int),dP (b:Int)] w (fun e w'=>e= .returned (Dz (a+b:Nat))∧Below w.heap.size w w'):=by
 have H:=zh (JL a b ha hb w ht)
 obtain ⟨tr,kr,Ew⟩:∃ tr kr,Dz (a+b:Nat)= .tuple #[.string tr,.int .i64 kr]:=by
  unfold Dz dP;split
  ·exact ⟨_,_,rfl⟩
  ·exact ⟨_,_,rfl⟩
 rw [Ew] at H ⊢;clear Ew ha hb ht;unfold dP at *;generalize (⟨(Lib.itoa (a:Int)).toArray⟩:ByteArray)=ta at *;generalize (⟨(Lib.itoa (b:Int)).toArray⟩:ByteArray)=tb at *;go_enter Tryz.func231,Tryz.ntmps231
 go_wp2_with fail
 refine H.out.mono ?_;rintro e w1 ⟨rfl,hb1⟩;go_wp2_with fail
 go_ret2
 exact ⟨rfl,hb1⟩
theorem Ju (a b:Nat) (ha:nC a=true) (hb:nC b=true) (b0:0<b) (w:World) (ht:jw.Pow w) :
  Calls Tryz.prog 291 #[dP (a:Int),dP (b:Int)] w (fun e w'=>e= .returned (.tuple #[dP (a / b:Nat),dP (a%b:Nat),.int .i64 0])∧Below w.heap.size w w'):=by
 have sa:=nN ha;have q1:nC (a / b)=true:=uj ha (Nat.div_le_self _ _);have q2:nC (a%b)=true:=uj ha (Nat.mod_le _ _);have Yo:=zh (fun W=>MZ a b (iN.1 ha) (iN.1 hb) W);have LA:=zh (fun x y W hx hy=>ji x y a b W hx hy b0 zo);have HW1:=zh (fun v W h hq=>nP v (a / b:Nat) W h (by rw [Int.natAbs_natCast];exact Nat.le_trans (nN q1) zo) hq);have HW2:=zh (fun v W h hq=>nP v (a%b:Nat) W h (by rw [Int.natAbs_natCast];exact Nat.le_trans (nN q2) zo) hq);rw [wF q1] at HW1;rw [wF q2] at HW2;have HP:=zh ht;have d0:decide (b=0)=false:=by simp;omega
 clear sa q1 q2 ha hb ht;obtain ⟨q,Eq⟩:∃ q,a / b=q:=⟨_,rfl⟩;obtain ⟨r,Er⟩:∃ r,a%b=r:=⟨_,rfl⟩;rw [Eq] at HW1;rw [Er] at HW2;have by5:Hid (∀ x y W,aT W x a→aT W y b→Calls Tryz.prog 313 #[x,y] W (qA W q r)):=zh (by rw [← Eq,← Er];exact LA.out);rw [Eq,Er];clear LA Eq Er b0;unfold dP at *;generalize (⟨(Lib.itoa (a:Int)).toArray⟩:ByteArray)=ta at *;generalize (⟨(Lib.itoa (b:Int)).toArray⟩:ByteArray)=tb at *;generalize (⟨(Lib.itoa (q:Int)).toArray⟩:ByteArray)=tq at *;generalize (⟨(Lib.itoa (r:Int)).toArray⟩:ByteArray)=tr at *;go_enter Tryz.func291,Tryz.ntmps291
 go_wp2_with fail
 refine (Yo.out _).mono ?_;rintro e w1 ⟨p1,l1,c1,p2,l2,c2,rfl,hb1,hx,hy⟩;have HX:=zh hx;have HY:=zh hy;have HB1:=zh hb1;clear hx hy hb1
 go_upto_region 2 with fail
 obtain ⟨wx,EW,hz,X1,X2⟩:=uH w1 #[.slice p1 l1 c1,.bool false] 257 #[.slice p2 l2 c2,.bool false] 257;rw [EW];clear EW;replace HX:=zh (HX.out.later hz);replace HY:=zh (HY.out.later hz);have HB2:=zh (Bt HB1.out hz);clear hz HB1;obtain ⟨bx,eb⟩:∃ y,w1.heap.size=y:=⟨_,rfl⟩;rw [eb] at X1 X2 ⊢;obtain ⟨aO,aN⟩:=X1.cl;obtain ⟨dI,dH⟩:=X2.cl;go_wp2_with fail
 refine (jH _ b _ HY.out).mono ?_;rintro e w2 ⟨rfl,rfl⟩;rw [d0];go_wp2_with fail
 refine (by5.out _ _ _ HX.out HY.out).mono ?_;rintro e w3 ⟨v3,v4,rfl,hb3,hv3,hv4⟩;obtain ⟨p3,l3,c3,rfl⟩:=hv3.slice;obtain ⟨p4,l4,c4,rfl⟩:=hv4.slice;have HQ:=zh hv3;have HR:=zh hv4;have HB3:=zh (Bt HB2.out hb3);replace X1:=X1.bl hb3;replace X2:=X2.bl hb3;clear hv3 hv4 hb3 HX HY HB2 aO aN dI dH;obtain ⟨aO,aN⟩:=X1.cl;obtain ⟨dI,dH⟩:=X2.cl;go_wp2_with fail
 refine (iy _ q false _ HQ.out).mono ?_;rintro e w4 ⟨v,rfl,hb4,hv⟩;obtain ⟨p5,l5,c5,rfl,hm5⟩:=id hv;have HI:=zh (hv.cast (show kM q false=(q:Int) from rfl));have g3:decide (kM q false<0)=false:=by unfold kM;simp
 rw [g3] at HI ⊢;have HB4:=zh (Bt HB3.out hb4);replace HR:=zh (HR.out.later hb4);clear hv hm5 hb4 HB3 g3 aO aN dI dH;go_wp2_with fail
 refine (HW1.out _ _ HI.out (HP.out.later HB4.out)).mono ?_;rintro e w5 ⟨rfl,hb5⟩;have HB5:=zh (Bt HB4.out hb5);replace HR:=zh (HR.out.later hb5);clear hb5 HB4 HI;go_wp2_with fail
 refine (iy _ r false _ HR.out).mono ?_;rintro e w6 ⟨v,rfl,hb6,hv⟩;obtain ⟨p6,l6,c6,rfl,hm6⟩:=id hv;have HI:=zh (hv.cast (show kM r false=(r:Int) from rfl));have g3:decide (kM r false<0)=false:=by unfold kM;simp
 rw [g3] at HI ⊢;have HB6:=zh (Bt HB5.out hb6);clear hv hm6 hb6 HB5 g3;go_wp2_with fail
 refine (HW2.out _ _ HI.out (HP.out.later HB6.out)).mono ?_;rintro e w7 ⟨rfl,qZ⟩;have hw:=Bt HB6.out qZ;go_wp2_with fail
 go_ret3
 exact ⟨rfl,hw⟩
end Go.Proofs.whole
namespace Go.Proofs.power
open Go Go.RowKit Go.SW Go.Num Go.Mem Go.Proofs Go.Dec Go.jQ Go.Proofs.whole
theorem Vy {a b:Nat}:((⟨(Lib.itoa (a:Int)).toArray⟩:ByteArray).toList == (⟨(Lib.itoa (b:Int)).toArray⟩:ByteArray).toList)=decide (a=b):=by
 rw [ByteArray.toList_eq,ByteArray.toList_eq]
 show (Lib.itoa (a:Int) == Lib.itoa (b:Int))=_
 by_cases h:a=b
 ·subst h;simp
 ·rw [decide_eq_false h];refine beq_eq_false_iff_ne.2 fun e=>h ?_;have:=PG e;omega
theorem zI (a k:Nat) (ha:nC a=true) (hk:1≤k) (k12:k≤12) (w:World) (ht:jw.Pow w) :
  Calls Tryz.prog 157 #[dP (a:Int),.int .i64 (k:Int)] w (fun e w'=>e= .returned (.tuple #[dP (iH k a:Nat),.bool (decide (iH k a^k=a)),.int .i64 0])∧Below w.heap.size w w'):=by
 have hle:=(nY hk a).1;have hro:nC (iH k a)=true:=uj ha (sF hk);have HR:=zh (fun W hp=>Oh a k ha hk k12 W hp);have Uz:=zh (fun W hp=>zu (iH k a) k hro zo W hp);rw [wF (uj ha hle)] at Uz;have he:((⟨(Lib.itoa ((iH k a^k:Nat):Int)).toArray⟩:ByteArray).toList == (⟨(Lib.itoa (a:Int)).toArray⟩:ByteArray).toList)=decide (iH k a^k=a):=Vy;have HP:=zh ht;clear hle hro ha ht;generalize decide (iH k a^k=a)=ex at *;generalize iH k a^k=rp at *;generalize iH k a=r at *;unfold dP at *;generalize (⟨(Lib.itoa (a:Int)).toArray⟩:ByteArray)=ta at *;generalize (⟨(Lib.itoa (rp:Int)).toArray⟩:ByteArray)=tp at *;generalize (⟨(Lib.itoa (r:Int)).toArray⟩:ByteArray)=tr at *;go_enter Tryz.func157,Tryz.ntmps157
 go_wp2_with fail
 refine (HR.out _ HP.out).mono ?_;rintro e w1 ⟨rfl,hb1⟩;have HB1:=zh hb1;clear hb1;go_wp2_with fail
 refine (Uz.out _ (HP.out.later HB1.out)).mono ?_;rintro e w2 ⟨rfl,hb2⟩;have hw:=Bt HB1.out hb2;go_wp2_with fail
 go_ret3
 exact ⟨by rw [← he];rfl,hw⟩
theorem ab0 (c:Nat):Lib.itoa ((10^c:Nat):Int)=49::Lib.repeatL [48] c:=by
 have h:=DY c 1 0 zo (Nat.pow_pos zo);rw [Nat.one_mul,Nat.add_zero,jJ (u:=1) zo,Gw] at h;have hr:=Lib.repeatL_replicate 48 1 c;rw [Nat.mul_one] at hr;rw [show ([48]:List UInt8)=List.replicate 1 48 from rfl,hr];exact h
theorem vg (c:Nat) (hc:c≤1000) (w:World) :
  Calls Tryz.prog 290 #[.int .i64 (c:Int)] w (fun e w'=>e= .returned (dP (10^c:Nat))∧Below w.heap.size w w'):=by
 have H:=zh (fun W=>Tryz.strings_Repeat ⟨#[48]⟩ c W zo (by rw [show (⟨#[48]⟩:ByteArray).size=1 from rfl];omega))
 have e:(⟨(Lib.itoa ((10^c:Nat):Int)).toArray⟩:ByteArray)=(⟨#[49]⟩:ByteArray)++⟨(Lib.repeatL [48] c).toArray⟩:=by
  rw [ab0];apply ByteArray.ext
  simp
 unfold dP;rw [e];clear e
 have hs:(⟨(Lib.repeatL [48] c).toArray⟩:ByteArray).size≤1000:=by
  show (Lib.repeatL [48] c).length≤1000
  rw [Lib.repeatL_length];simp
  omega
 generalize (⟨(Lib.repeatL [48] c).toArray⟩:ByteArray)=t at *;go_enter Tryz.func290,Tryz.ntmps290
 go_wp2_with fail
 refine (H.out _).mono ?_;rintro e w1 ⟨rfl,hb1⟩;go_wp2_with fail
 go_ret
 exact ⟨rfl,hb1⟩
def Bz (n:Nat) (up:Bool):Int × Int:=if n≤1000000000000000000 then ((n:Int)+(if up then 1 else 0),0) else (0,6)
theorem yO (n:Nat) (up:Bool) (hn:nC n=true) (w:World) (he:Er w) :
  Calls Tryz.prog 158 #[dP (n:Int),.bool up] w (fun e w'=>e= .returned (.tuple #[.int .i64 (Bz n up).1,.int .i64 (Bz n up).2])∧Below w.heap.size w w'):=by
 have H:=zh (fun W h=>aL7 n hn W h);have HE:=zh he;clear hn he;unfold dP ao1 at *;generalize (⟨(Lib.itoa (n:Int)).toArray⟩:ByteArray)=t at *;unfold Bz
 by_cases h1:n<9223372036854775808
 ·simp only [if_pos h1] at H
  by_cases h2:n≤1000000000000000000
  ·have g:decide ((1000000000000000000:Int)<(n:Int))=false:=by simp;omega
   simp only [if_pos h2];cases up
   all_goals
    go_enter Tryz.func158,Tryz.ntmps158
    go_wp2_with fail
    refine (H.out _ HE.out).mono ?_;rintro e w1 ⟨rfl,hb1⟩;go_wp2_with fail
    go_ret2
    exact ⟨by simp,hb1⟩
  ·have g:decide ((1000000000000000000:Int)<(n:Int))=true:=by simp;omega
   simp only [if_neg h2];go_enter Tryz.func158,Tryz.ntmps158
   go_wp2_with fail
   refine (H.out _ HE.out).mono ?_;rintro e w1 ⟨rfl,hb1⟩;go_wp2_with fail
   go_ret2
   exact ⟨rfl,hb1⟩
 ·simp only [if_neg h1] at H;have h2:¬ n≤1000000000000000000:=by omega
  simp only [if_neg h2];go_enter Tryz.func158,Tryz.ntmps158
  go_wp2_with fail
  refine (H.out _ HE.out).mono ?_;rintro e w1 ⟨rfl,hb1⟩;go_wp2_with fail
  go_ret2
  exact ⟨rfl,hb1⟩
theorem YU {c k:Nat} (h:c<k):10^c<kL k:=by
 unfold kL;exact Nat.pow_lt_pow_right zo h
theorem Vo {c:Nat} (h:c<600):nC (10^c)=true:=by
 unfold nC;exact decide_eq_true (YU h)
theorem zO {n:Nat}:nC n=true↔n<10^600:=by
 unfold nC kL;exact decide_eq_true_iff
theorem zero_eq (b:Nat):((⟨(Lib.itoa (b:Int)).toArray⟩:ByteArray).toList == [48])=decide (b=0):=by
 have:= @Vy b 0
 have e:(⟨(Lib.itoa ((0:Nat):Int)).toArray⟩:ByteArray).toList=[48]:=by
  rw [ByteArray.toList_eq]
  show Lib.itoa ((0:Nat):Int)=[48]
  decide+kernel
 rw [e] at this;exact this
theorem Ny {n p q:Nat} {up:Bool} (h:¬ vW n p q≤10^18):yX n p q up=(0,6):=by
 unfold yX;rw [if_neg h]
theorem PO {n p q:Nat} {up:Bool}:Bz (vW n p q) (up&& !(Xg n p q))=yX n p q up:=by
 by_cases h:vW n p q≤10^18
 ·rw [aq7 h];unfold Bz;rw [if_pos h]
 ·rw [Ny h];unfold Bz;rw [if_neg h]
theorem BQ (n p q:Nat) (up:Bool) (hn:n≤10^18) (p1:1≤p) (p36:p≤36) (q1:1≤q) (q12:q≤12) (w:World) (ht:jw.Pow w) (he:Er w) :
  Calls Tryz.prog 253 #[.agg #[.int .i64 (p:Int),.int .i64 (q:Int)],.int .i64 (n:Int),.bool up] w (fun e w'=>e= .returned (.tuple #[.int .i64 (yX n p q up).1,.int .i64 (yX n p q up).2])∧Below w.heap.size w w'):=by
 have hn0:nC n=true:=zO.2 (Nat.lt_of_le_of_lt hn (by decide+kernel))
 have h63:(n:Int)≤9223372036854775807:=by
  have:(10:Nat)^18=1000000000000000000:=by decide
  omega
 have HO:=zh (fun W h=>CF (n:Int) zo h63 W h);have Uz:=zh (fun W h=>zu n p hn0 zo W h);have HP:=zh ht;have HE:=zh he;clear ht he h63
 by_cases h1:nC (n^p)=true
 ·rw [wF h1] at Uz
  by_cases hpq:p≤q
  ·have g:decide ((p:Int)≤(q:Int))=true:=by simp;omega
   have e12:(12:Int)*((q:Int) - (p:Int))=((12*(q - p):Nat):Int):=by omega
   have h12:12*(q - p)≤132:=by omega
   have HT:=zh (fun W=>vg (12*(q - p)) zo W);have HM:=zh (fun W h=>Ci (n^p) (10^(12*(q - p))) h1 (Vo zo) W h);have ea:=Ph (n:=n) hpq;rw [← ea] at HM;have ex:Xg n p q=_:=aA2 hpq
   by_cases h2:nC (mg n p q)=true
   ·rw [wF h2] at HM;have HR:=zh (fun W h=>zI (mg n p q) q h2 q1 q12 W h);have HI:=zh (fun W h=>yO (vW n p q) (up&& !(Xg n p q)) (uj h2 (sF q1)) W h);rw [PO] at HI
    change Hid (∀ (W:World),jw.Pow W→Calls _ _ _ _ (fun e w'=>e= .returned (.tuple #[dP ((vW n p q:Nat):Int),.bool (decide (vW n p q^q=mg n p q)),.int .i64 0])∧_)) at HR
    rw [← ex] at HR;clear ex ea h2 h1 hn0;obtain ⟨v,Ev⟩:∃ v,yX n p q up=v:=⟨_,rfl⟩;rw [Ev] at HI ⊢;obtain ⟨v1,v2⟩:=v;clear Ev;simp only at HI ⊢;generalize 10^(12*(q - p))=t12 at *;generalize 12*(q - p)=c12 at *;generalize Xg n p q=ex at *;generalize vW n p q=r at *;generalize mg n p q=a at *;generalize n^p=np at *;clear hn;unfold dP at *;generalize (⟨(Lib.itoa (n:Int)).toArray⟩:ByteArray)=tn at *;generalize (⟨(Lib.itoa (np:Int)).toArray⟩:ByteArray)=tnp at *;generalize (⟨(Lib.itoa (t12:Int)).toArray⟩:ByteArray)=aW3 at *;generalize (⟨(Lib.itoa (a:Int)).toArray⟩:ByteArray)=ta at *;generalize (⟨(Lib.itoa (r:Int)).toArray⟩:ByteArray)=tr at *;go_enter Tryz.func253,Tryz.ntmps253
    go_wp2_with fail
    obtain ⟨wx,EW,hz,X⟩:=pJ w #[.int .i64 (p:Int),.int .i64 (q:Int)] 252;rw [EW];clear EW;have HB1:=zh hz;clear hz;obtain ⟨bx,eb⟩:∃ y,w.heap.size=y:=⟨_,rfl⟩;rw [eb] at X ⊢;obtain ⟨cX,lX⟩:=X.cl;refine aC [(.pure,0),(.pure,2),(.pure,3),(.read,4),(.ext,1),(.ext,5),(.pure,6),(.pure,7),(.pure,8),(.fin,9),(.fin,10)] zk zk zR zP ?_;refine zW ?_;refine aL rfl rfl (fun we hbe J hJ=>?_);go_simp;have h1:Below wx.heap.size wx we:=au;refine (HO.out _ (HP.out.later (Bt HB1.out h1))).mono ?_;rintro e w1 ⟨rfl,hb1⟩;refine hJ _ _ hb1 ?_;clear hJ J;have h2:=Bt h1 hb1;clear h1 hbe hb1;refine aL rfl rfl (fun we hbe J hJ=>?_);go_simp;have h3:Below w1.heap.size w1 we:=au;refine (Uz.out _ (HP.out.later (Bt HB1.out (Bt h2 h3)))).mono ?_;rintro e w2 ⟨rfl,hb2⟩;refine hJ _ _ hb2 ?_;clear hJ J;have h4:=Bt h2 (Bt h3 hb2);clear h3 h2 hbe hb2;refine zV ?_
    refine dK [_,_] rfl (fun wf hbf=>?_);have h5:Below wx.heap.size wx wf:=Bt h4 au;replace X:=X.bl h5;replace HB1:=zh (Bt HB1.out h5);clear h5 h4 hbf cX lX;obtain ⟨cX,lX⟩:=X.cl;go_wp2_with fail
    try rw [e12]
    refine (HT.out _).mono ?_;rintro e w3 ⟨rfl,hb3⟩;replace HB1:=zh (Bt HB1.out hb3);replace X:=X.bl hb3;clear hb3 cX lX;obtain ⟨cX,lX⟩:=X.cl;go_wp2_with fail
    refine (HM.out _ (HP.out.later HB1.out)).mono ?_;rintro e w4 ⟨rfl,hb4⟩;replace HB1:=zh (Bt HB1.out hb4);replace X:=X.bl hb4;clear hb4 cX lX;obtain ⟨cX,lX⟩:=X.cl;go_wp2_with fail
    refine (HR.out _ (HP.out.later HB1.out)).mono ?_;rintro e w5 ⟨rfl,hb5⟩;replace HB1:=zh (Bt HB1.out hb5);clear hb5 X cX lX;cases up<;>cases ex
    all_goals
     go_wp2_with fail
     refine (HI.out _ (HE.out.later HB1.out)).mono ?_;rintro e w6 ⟨rfl,hb6⟩;have hw:=Bt HB1.out hb6;go_wp2_with fail
     go_ret2
     exact ⟨rfl,hw⟩
   ·have hno:¬ vW n p q≤10^18:=Nat.not_le.2 (af5 q1 q12 (Nat.not_lt.1 fun h=>h2 (zO.2 h)));rw [Ny hno];rw [show Dz ((mg n p q:Nat):Int)= .tuple #[.string ⟨#[]⟩,.int .i64 6] from by unfold Dz;rw [Int.natAbs_natCast,if_neg h2]] at HM;clear ex ea h2 h1 hn0 hno;generalize 10^(12*(q - p))=t12 at *;generalize 12*(q - p)=c12 at *;generalize n^p=np at *;clear hn;unfold dP at *;generalize (⟨(Lib.itoa (n:Int)).toArray⟩:ByteArray)=tn at *;generalize (⟨(Lib.itoa (np:Int)).toArray⟩:ByteArray)=tnp at *;generalize (⟨(Lib.itoa (t12:Int)).toArray⟩:ByteArray)=aW3 at *;go_enter Tryz.func253,Tryz.ntmps253
    go_wp2_with fail
    obtain ⟨wx,EW,hz,X⟩:=pJ w #[.int .i64 (p:Int),.int .i64 (q:Int)] 252;rw [EW];clear EW;have HB1:=zh hz;clear hz;obtain ⟨bx,eb⟩:∃ y,w.heap.size=y:=⟨_,rfl⟩;rw [eb] at X ⊢;obtain ⟨cX,lX⟩:=X.cl;refine aC [(.pure,0),(.pure,2),(.pure,3),(.read,4),(.ext,1),(.ext,5),(.pure,6),(.pure,7),(.pure,8),(.fin,9),(.fin,10)] zk zk zR zP ?_;refine zW ?_;refine aL rfl rfl (fun we hbe J hJ=>?_);go_simp;have h1:Below wx.heap.size wx we:=au;refine (HO.out _ (HP.out.later (Bt HB1.out h1))).mono ?_;rintro e w1 ⟨rfl,hb1⟩;refine hJ _ _ hb1 ?_;clear hJ J;have h2:=Bt h1 hb1;clear h1 hbe hb1;refine aL rfl rfl (fun we hbe J hJ=>?_);go_simp;have h3:Below w1.heap.size w1 we:=au;refine (Uz.out _ (HP.out.later (Bt HB1.out (Bt h2 h3)))).mono ?_;rintro e w2 ⟨rfl,hb2⟩;refine hJ _ _ hb2 ?_;clear hJ J;have h4:=Bt h2 (Bt h3 hb2);clear h3 h2 hbe hb2;refine zV ?_
    refine dK [_,_] rfl (fun wf hbf=>?_);have h5:Below wx.heap.size wx wf:=Bt h4 au;replace X:=X.bl h5;replace HB1:=zh (Bt HB1.out h5);clear h5 h4 hbf cX lX;obtain ⟨cX,lX⟩:=X.cl;go_wp2_with fail
    try rw [e12]
    refine (HT.out _).mono ?_;rintro e w3 ⟨rfl,hb3⟩;replace HB1:=zh (Bt HB1.out hb3);replace X:=X.bl hb3;clear hb3 cX lX;obtain ⟨cX,lX⟩:=X.cl;go_wp2_with fail
    refine (HM.out _ (HP.out.later HB1.out)).mono ?_;rintro e w4 ⟨rfl,hb4⟩;have hw:=Bt HB1.out hb4;go_wp2_with fail
    go_ret2
    exact ⟨rfl,hw⟩
  ·have g:decide ((p:Int)≤(q:Int))=false:=by simp;omega
   have e12:(12:Int)*((p:Int) - (q:Int))=((12*(p - q):Nat):Int):=by omega
   have h12:12*(p - q)≤420:=by omega
   have HT:=zh (fun W=>vg (12*(p - q)) zo W);have HM:=zh (fun W h=>Ju (n^p) (10^(12*(p - q))) h1 (Vo zo) (vw _) W h);have ea:=Pj (n:=n) (p:=p) (q:=q) zo;rw [← ea] at HM;have ex:Xg n p q=_:=aA3 q1 zo
   have h2:nC (mg n p q)=true:=by
    rw [ea];exact uj h1 (Nat.div_le_self _ _)
   ·have HR:=zh (fun W h=>zI (mg n p q) q h2 q1 q12 W h);have HI:=zh (fun W h=>yO (vW n p q) (up&& !(Xg n p q)) (uj h2 (sF q1)) W h);rw [PO] at HI
    change Hid (∀ (W:World),jw.Pow W→Calls _ _ _ _ (fun e w'=>e= .returned (.tuple #[dP ((vW n p q:Nat):Int),.bool (decide (vW n p q^q=mg n p q)),.int .i64 0])∧_)) at HR
    rw [ex] at HI;clear ex ea h2 h1 hn0;obtain ⟨v,Ev⟩:∃ v,yX n p q up=v:=⟨_,rfl⟩;rw [Ev] at HI ⊢;obtain ⟨v1,v2⟩:=v;clear Ev;simp only at HI ⊢;have hz:=zero_eq (n^p%10^(12*(p - q)));rw [← hz] at HI;clear hz;generalize n^p%10^(12*(p - q))=rm at *;generalize 10^(12*(p - q))=t12 at *;generalize 12*(p - q)=c12 at *;generalize decide (vW n p q^q=mg n p q)=ex at *;generalize vW n p q=r at *;generalize mg n p q=a at *;generalize n^p=np at *;clear hn;unfold dP at *;generalize (⟨(Lib.itoa (n:Int)).toArray⟩:ByteArray)=tn at *;generalize (⟨(Lib.itoa (np:Int)).toArray⟩:ByteArray)=tnp at *;generalize (⟨(Lib.itoa (t12:Int)).toArray⟩:ByteArray)=aW3 at *;generalize (⟨(Lib.itoa (a:Int)).toArray⟩:ByteArray)=ta at *;generalize (⟨(Lib.itoa (r:Int)).toArray⟩:ByteArray)=tr at *;generalize (⟨(Lib.itoa (rm:Int)).toArray⟩:ByteArray)=tm at *;go_enter Tryz.func253,Tryz.ntmps253
    go_wp2_with fail
    obtain ⟨wx,EW,hz,X⟩:=pJ w #[.int .i64 (p:Int),.int .i64 (q:Int)] 252;rw [EW];clear EW;have HB1:=zh hz;clear hz;obtain ⟨bx,eb⟩:∃ y,w.heap.size=y:=⟨_,rfl⟩;rw [eb] at X ⊢;obtain ⟨cX,lX⟩:=X.cl;refine aC [(.pure,0),(.pure,2),(.pure,3),(.read,4),(.ext,1),(.ext,5),(.pure,6),(.pure,7),(.pure,8),(.fin,9),(.fin,10)] zk zk zR zP ?_;refine zW ?_;refine aL rfl rfl (fun we hbe J hJ=>?_);go_simp;have h1:Below wx.heap.size wx we:=au;refine (HO.out _ (HP.out.later (Bt HB1.out h1))).mono ?_;rintro e w1 ⟨rfl,hb1⟩;refine hJ _ _ hb1 ?_;clear hJ J;have h2:=Bt h1 hb1;clear h1 hbe hb1;refine aL rfl rfl (fun we hbe J hJ=>?_);go_simp;have h3:Below w1.heap.size w1 we:=au;refine (Uz.out _ (HP.out.later (Bt HB1.out (Bt h2 h3)))).mono ?_;rintro e w2 ⟨rfl,hb2⟩;refine hJ _ _ hb2 ?_;clear hJ J;have h4:=Bt h2 (Bt h3 hb2);clear h3 h2 hbe hb2;refine zV ?_
    refine dK [_,_] rfl (fun wf hbf=>?_);have h5:Below wx.heap.size wx wf:=Bt h4 au;replace X:=X.bl h5;replace HB1:=zh (Bt HB1.out h5);clear h5 h4 hbf cX lX;obtain ⟨cX,lX⟩:=X.cl;go_wp2_with fail
    try rw [e12]
    refine (HT.out _).mono ?_;rintro e w3 ⟨rfl,hb3⟩;replace HB1:=zh (Bt HB1.out hb3);replace X:=X.bl hb3;clear hb3 cX lX;obtain ⟨cX,lX⟩:=X.cl;go_wp2_with fail
    refine (HM.out _ (HP.out.later HB1.out)).mono ?_;rintro e w4 ⟨rfl,hb4⟩;replace HB1:=zh (Bt HB1.out hb4);replace X:=X.bl hb4;clear hb4 cX lX;obtain ⟨cX,lX⟩:=X.cl;go_wp2_with fail
    refine (HR.out _ (HP.out.later HB1.out)).mono ?_;rintro e w5 ⟨rfl,hb5⟩;replace HB1:=zh (Bt HB1.out hb5);clear hb5 X cX lX;cases hz:(tm.toList == [48])<;>rw [hz] at HI<;>cases up<;>cases ex
    all_goals
     go_wp2_with fail
     refine (HI.out _ (HE.out.later HB1.out)).mono ?_;rintro e w6 ⟨rfl,hb6⟩;have hw:=Bt HB1.out hb6;go_wp2_with fail
     go_ret2
     exact ⟨rfl,hw⟩
 ·have hno:¬ vW n p q≤10^18:=Nat.not_le.2 (am4 q1 p36 q12 (Nat.not_lt.1 fun h=>h1 (zO.2 h)));rw [Ny hno];rw [show Dz ((n^p:Nat):Int)= .tuple #[.string ⟨#[]⟩,.int .i64 6] from by unfold Dz;rw [Int.natAbs_natCast,if_neg h1]] at Uz;clear h1 hn0 hno hn;unfold dP at *;generalize (⟨(Lib.itoa (n:Int)).toArray⟩:ByteArray)=tn at *;go_enter Tryz.func253,Tryz.ntmps253
  go_wp2_with fail
  obtain ⟨wx,EW,hz,X⟩:=pJ w #[.int .i64 (p:Int),.int .i64 (q:Int)] 252;rw [EW];clear EW;have HB1:=zh hz;clear hz;obtain ⟨bx,eb⟩:∃ y,w.heap.size=y:=⟨_,rfl⟩;rw [eb] at X ⊢;obtain ⟨cX,lX⟩:=X.cl;refine aC [(.pure,0),(.pure,2),(.pure,3),(.read,4),(.ext,1),(.ext,5),(.pure,6),(.pure,7),(.pure,8),(.fin,9),(.fin,10)] zk zk zR zP ?_;refine zW ?_;refine aL rfl rfl (fun we hbe J hJ=>?_);go_simp;have h1:Below wx.heap.size wx we:=au;refine (HO.out _ (HP.out.later (Bt HB1.out h1))).mono ?_;rintro e w1 ⟨rfl,hb1⟩;refine hJ _ _ hb1 ?_;clear hJ J;have h2:=Bt h1 hb1;clear h1 hbe hb1;refine aL rfl rfl (fun we hbe J hJ=>?_);go_simp;have h3:Below w1.heap.size w1 we:=au;refine (Uz.out _ (HP.out.later (Bt HB1.out (Bt h2 h3)))).mono ?_;rintro e w2 ⟨rfl,hb2⟩;refine hJ _ _ hb2 ?_;clear hJ J;have h4:=Bt h2 (Bt h3 hb2);clear h3 h2 hbe hb2;refine zV ?_
  refine dK [_,_] rfl (fun wf hbf=>?_);have h5:Below wx.heap.size wx wf:=Bt h4 au;replace X:=X.bl h5;replace HB1:=zh (Bt HB1.out h5);clear h5 h4 hbf cX lX;obtain ⟨cX,lX⟩:=X.cl;have hw:=HB1.out;go_wp2_with fail
  go_ret2
  exact ⟨rfl,hw⟩
end Go.Proofs.power
namespace Go.Proofs.power
open Go Go.RowKit Go.SW Go.Num Go.Mem Go.Proofs Go.Dec Go.jQ Go.Proofs.whole Go.Proofs.aQ
def Pq (a b:Int × Int):(Int × Int) × Int:=if a.2≠0 then ((0,0),a.2) else if b.2≠0 then ((0,0),b.2) else if jF a.1 b.1 then ((a.1,b.1),0) else ((0,0),6)
theorem Vn (a b:Int × Int):Xk a b=gZ (Pq a b):=by
 unfold Xk Pq gZ
 by_cases h1:a.2=0<;>by_cases h2:b.2=0<;>cases h3:jF a.1 b.1<;>simp [h1,h2]
def pwE (lo hi p q:Int):(Int × Int) × Int:=if jF lo hi=false then ((0,0),30) else if eok p q=false∨lo<0 then ((0,0),2) else Pq (yX lo.toNat p.toNat q.toNat false) (yX hi.toNat p.toNat q.toNat true)
theorem ah1 (lo hi p q:Int) (w:World) (ht:jw.Pow w) (he:Er w) :
  Calls Tryz.prog 199 #[.agg #[.int .i64 lo,.int .i64 hi],.int .i64 p,.int .i64 q] w (fun e w'=>e= .returned (gZ (pwE lo hi p q))∧Below w.heap.size w w'):=by
 have HP:=zh ht;have HE:=zh he;have HC:=zh (fun W=>pK lo hi W);have HV:=zh (fun W=>nQ p q W);clear ht he;generalize hz0:pwE lo hi p q=z at *;unfold pwE at hz0;obtain ⟨⟨z1,z2⟩,z3⟩:=z;unfold gZ;simp only;go_enter Tryz.func199,Tryz.ntmps199
 go_wp2_with fail
 obtain ⟨wx,EW,hz,X,R⟩:=uH w #[.int .i64 lo,.int .i64 hi] 40 #[.int .i64 0,.int .i64 0] 40;rw [EW];clear EW;have HB:=zh hz;clear hz;obtain ⟨bx,eb⟩:∃ y,w.heap.size=y:=⟨_,rfl⟩;rw [eb] at X R ⊢;refine (HC.out _).mono ?_;rintro e w1 ⟨rfl,hb1⟩;replace X:=X.bl hb1;replace R:=R.bl hb1;replace HB:=zh (Bt HB.out hb1);clear hb1 HC;obtain ⟨cX,lX⟩:=X.cl;cases hk:jF lo hi
 ·rw [hk,if_pos rfl] at hz0;cases hz0
  have hx:=R.out;have cx:=hx.cell;have fx:=hx.free;have lx:=hx.lt;have hw:=HB.out;go_wp2_with fail
  refine aK rfl rfl aH Tryz.underlying40 rfl zk ?_;exact ⟨rfl,au⟩
 ·rw [hk,if_neg zi] at hz0;go_wp2_with fail
  obtain ⟨wy,EW,hz,Y⟩:=pJ w1 #[.int .i64 p,.int .i64 q] 252;rw [EW];clear EW;replace HB:=zh (Bt HB.out hz);replace X:=X.bl hz;replace R:=R.bl hz;clear hz cX lX;obtain ⟨by',eb⟩:∃ y,w1.heap.size=y:=⟨_,rfl⟩;rw [eb] at Y ⊢;refine (HV.out _).mono ?_;rintro e w2 ⟨rfl,hb2⟩;replace HB:=zh (Bt HB.out hb2);replace X:=X.bl hb2;replace R:=R.bl hb2;replace Y:=Y.bl hb2;clear hb2 HV;obtain ⟨cX,lX⟩:=X.cl;obtain ⟨cY,lY⟩:=Y.cl;cases hv:eok p q
  ·rw [hv,if_pos (Or.inl rfl)] at hz0;cases hz0
   have hx:=R.out;have cx:=hx.cell;have fx:=hx.free;have lx:=hx.lt;have hw:=HB.out;go_wp2_with fail
   refine aK rfl rfl aH Tryz.underlying40 rfl zk ?_;exact ⟨rfl,au⟩
  ·by_cases h0:lo<0
   ·have g:decide (lo<0)=true:=decide_eq_true h0;rw [if_pos (Or.inr h0)] at hz0;cases hz0
    have hx:=R.out;have cx:=hx.cell;have fx:=hx.free;have lx:=hx.lt;have hw:=HB.out;go_wp2_with fail
    refine aK rfl rfl aH Tryz.underlying40 rfl zk ?_;exact ⟨rfl,au⟩
   ·have g:decide (lo<0)=false:=decide_eq_false h0;rw [hv,if_neg (by simp [h0])] at hz0;obtain ⟨hp1,br9,hq1,hq12⟩:1≤p∧p≤36∧1≤q∧q≤12:=by simpa [eok] using hv
    obtain ⟨hk1,hk2,hk3⟩: -1000000000000000000≤lo∧lo≤hi∧hi≤1000000000000000000:=by simpa [jF] using hk
    have h18:(10:Nat)^18=1000000000000000000:=by decide
    have E1:=fun W (h:Below w2.heap.size w2 W)=>BQ lo.toNat p.toNat q.toNat false (by rw [h18];omega) zo zo zo zo W (HP.out.later (Bt HB.out h)) (HE.out.later (Bt HB.out h));have E2:=fun W (h:Below w2.heap.size w2 W)=>BQ hi.toNat p.toNat q.toNat true (by rw [h18];omega) zo zo zo zo W (HP.out.later (Bt HB.out h)) (HE.out.later (Bt HB.out h));simp only [Int.toNat_of_nonneg (show 0≤lo by omega),Int.toNat_of_nonneg (show 0≤hi by omega),Int.toNat_of_nonneg (show 0≤p by omega),Int.toNat_of_nonneg (show 0≤q by omega)] at E1 E2;have HO:=zh (Sw lo hi (.func (.func 253) #[.agg #[.int .i64 p,.int .i64 q]] #[]) 253 #[.agg #[.int .i64 p,.int .i64 q]] #[] _ _ w2 rfl E1 E2 rfl (fun args W=>by rfl));rw [Vn,hz0] at HO;unfold gZ at HO;clear hz0 E1 E2 h18 hp1 br9 hq1 hq12 hk1 hk2 hk3 hv h0 hk;go_wp2_with fail
    refine HO.out.mono ?_;rintro e w3 ⟨rfl,hb3⟩;replace HB:=zh (Bt HB.out hb3);replace R:=R.bl hb3;clear hb3 HO X Y cX lX cY lY;have hx:=R.out;have cx:=hx.cell;have fx:=hx.free;have lx:=hx.lt;have hw:=HB.out;go_wp2_with fail
    refine aK rfl rfl aH Tryz.underlying40 rfl zk ?_;exact ⟨rfl,au⟩
theorem Oh (lo hi q:Int) (w:World) (ht:jw.Pow w) (he:Er w) :
  Calls Tryz.prog 124 #[.agg #[.int .i64 lo,.int .i64 hi],.int .i64 q] w (fun e w'=>e= .returned (gZ (pwE lo hi 1 q))∧Below w.heap.size w w'):=by
 have HP:=zh ht;have HE:=zh he;have H:=zh (fun W h1 h2=>ah1 lo hi 1 q W h1 h2);clear ht he;generalize pwE lo hi 1 q=z at *;obtain ⟨⟨z1,z2⟩,z3⟩:=z;unfold gZ at *;simp only at *;go_enter Tryz.func124,Tryz.ntmps124
 go_wp2_with fail
 obtain ⟨wx,EW,hz,X,R⟩:=uH w #[.int .i64 lo,.int .i64 hi] 40 #[.int .i64 0,.int .i64 0] 40;rw [EW];clear EW;have HB:=zh hz;clear hz;obtain ⟨bx,eb⟩:∃ y,w.heap.size=y:=⟨_,rfl⟩;rw [eb] at X R ⊢;refine (H.out _ (HP.out.later HB.out) (HE.out.later HB.out)).mono ?_;rintro e w1 ⟨rfl,hb1⟩;replace R:=R.bl hb1;replace HB:=zh (Bt HB.out hb1);clear hb1 X;have hx:=R.out;have cx:=hx.cell;have fx:=hx.free;have lx:=hx.lt;have hw:=HB.out;go_wp2_with fail
 refine aK rfl rfl aH Tryz.underlying40 rfl zk ?_;exact ⟨rfl,au⟩
end Go.Proofs.power
namespace Go.Proofs.aQ
open Go Go.RowKit Go.SW Go.Num Go.Mem Go.Proofs Go.Dec Go.jQ
theorem BQ (n:Int) (s t:ByteArray) (w:World) (h1: -9223372036854775808≤n) (h2:n≤9223372036854775807) (ht:jw.Pow w) (he:qE n 1000000000000=(⟨s,t⟩,0)) :
  Calls Tryz.prog 196 #[.int .i64 n] w (fun e w'=>e= .returned (.tuple #[.agg #[.string s,.string t],.int .i64 0])∧Below w.heap.size w w'):=by
 have H:=zh (fun W (h:jw.Pow W)=>fM.tZ n 1000000000000 h1 h2 zo zo W h);rw [he] at H;unfold Fr.res Fr.v at H;have HP:=zh ht;clear he ht h1 h2;go_enter Tryz.func196,Tryz.ntmps196
 go_wp2_with fail
 obtain ⟨wx,EW,hz,HR⟩:=pJ w #[.string ⟨#[]⟩,.string ⟨#[]⟩] 32;rw [EW];clear EW;refine (H.out _ (HP.out.later hz)).mono ?_;rintro e w1 ⟨rfl,hb⟩;have hr:=HR.out.later hb;have cr:=hr.cell;have fr:=hr.free;have hw:=Bt hz hb;go_wp2_with fail
 refine aK rfl rfl ((hr.set 0 _).set 1 _) Tryz.underlying32 rfl zk ?_;exact ⟨rfl,(hw.setCell (p:=⟨w.heap.size,0,none⟩) (Nat.le_refl _) _).setCell (p:=⟨w.heap.size,1,none⟩) (Nat.le_refl _) _⟩
theorem Ql (F:FuncId) (free:Array Value) (lo hi:Int) (s t:ByteArray) (q:Nat) (w:World) (hv:jF lo hi=true) (hq:ah w q #[.int .i64 lo,.int .i64 hi] 40)
  (h1:∀ W,Below w.heap.size w W→Calls Tryz.prog F free W (fun e w'=>e= .returned (.tuple #[.agg #[.string s,.string t],.int .i64 0])∧Below W.heap.size W w'))
  (hen:∀ args W,(callFunc F args).run Tryz.prog W= .ok (.enter F args) W) :
  Calls Tryz.prog 283 #[.func (.func F) #[] free,.slice (some ⟨q,0,none⟩) 1 1] w (fun e w'=>e= .returned (.tuple #[.agg #[.string s,.string t],.int .i64 0])∧Below w.heap.size w w'):=by
 have HV:=zh (fun W=>hv ▸ nQ lo hi W);have H1:=zh h1;clear h1 hv;go_enter Tryz.func283,Tryz.ntmps283
 go_wp2_with fail
 obtain ⟨wx,EW,hz,R⟩:=pJ w #[.string ⟨#[]⟩,.string ⟨#[]⟩] 32;rw [EW];clear EW;have HB:=zh hz;have HQ:=zh (hq.later hz);clear hz hq;go_wp2_with fail
 go_loopw [11] (fun iv wr=>∃ k:Nat,iv= .int .i64 (k:Int)∧k≤1∧Below wx.heap.size wx wr) (fun iv _=>1 - (intOf iv).toNat)
 case atStart=>exact ⟨0,rfl,by omega,Below.refl _ _⟩
 case round =>
  obtain ⟨k,rfl,hk,hb⟩:=hrel
  rcases Nat.lt_or_ge k 1 with hlt|hge
  ·obtain rfl:k=0:=by omega
   have hq:=HQ.out.later hb;have cq:=hq.cell;have lq:=hq.lt;go_wp2_with fail
   obtain ⟨wy,EW,hz,Y⟩:=pJ wr #[.int .i64 lo,.int .i64 hi] 40;rw [EW];clear EW;refine (HV.out _).mono ?_;rintro e w1 ⟨rfl,hb1⟩;have hw:=Bt hb (Bt hz hb1);clear hz hb1 Y cq lq hq;go_wp2_with fail
   go_roundw
   case rel=>exact ⟨1,by go_num,by omega,hw⟩
   case measure=>simp [intOf]<;>omega
  ·obtain rfl:k=1:=by omega
   have hB:=Bt HB.out hb;have hr0:=R.out.later hb;go_wp2_with fail
   refine (H1.out _ hB).mono ?_;rintro e w1 ⟨rfl,hb1⟩;have hw:=Bt hB hb1;have hr:=hr0.later hb1;have cr:=hr.cell;have fr:=hr.free;clear hb1 hr0;go_wp2_with fail
   refine aK rfl rfl ((hr.set 0 _).set 1 _) Tryz.underlying32 rfl zk ?_;exact ⟨rfl,(hw.setCell (p:=⟨w.heap.size,0,none⟩) (Nat.le_refl _) _).setCell (p:=⟨w.heap.size,1,none⟩) (Nat.le_refl _) _⟩
theorem ae9 (F:FuncId) (free:Array Value) (lo hi:Int) (q:Nat) (w:World) (hv:jF lo hi=true) (hq:ah w q #[.int .i64 lo,.int .i64 hi] 40)
  (h1:∀ W,Below w.heap.size w W→Calls Tryz.prog F free W (fun e w'=>e= .returned (.tuple #[.bool true,.int .i64 0])∧Below W.heap.size W w'))
  (hen:∀ args W,(callFunc F args).run Tryz.prog W= .ok (.enter F args) W) :
  Calls Tryz.prog 194 #[.func (.func F) #[] free,.slice (some ⟨q,0,none⟩) 1 1] w (fun e w'=>e= .returned (.tuple #[.bool true,.int .i64 0])∧Below w.heap.size w w'):=by
 have HV:=zh (fun W=>hv ▸ nQ lo hi W);have H1:=zh h1;have HQ:=zh hq;clear h1 hv hq;go_enter Tryz.func194,Tryz.ntmps194
 obtain ⟨wx,EWX⟩:∃ y,y=w:=⟨_,rfl⟩;subst EWX;go_wp2_with fail
 go_loopw [11] (fun iv wr=>∃ k:Nat,iv= .int .i64 (k:Int)∧k≤1∧Below wx.heap.size wx wr) (fun iv _=>1 - (intOf iv).toNat)
 case atStart=>exact ⟨0,rfl,by omega,Below.refl _ _⟩
 case round =>
  obtain ⟨k,rfl,hk,hb⟩:=hrel
  rcases Nat.lt_or_ge k 1 with hlt|hge
  ·obtain rfl:k=0:=by omega
   have hq:=HQ.out.later hb;have cq:=hq.cell;have lq:=hq.lt;go_wp2_with fail
   obtain ⟨wy,EW,hz,Y⟩:=pJ wr #[.int .i64 lo,.int .i64 hi] 40;rw [EW];clear EW;refine (HV.out _).mono ?_;rintro e w1 ⟨rfl,hb1⟩;have hw:=Bt hb (Bt hz hb1);clear hz hb1 Y cq lq hq;go_wp2_with fail
   go_roundw
   case rel=>exact ⟨1,by go_num,by omega,hw⟩
   case measure=>simp [intOf]<;>omega
  ·obtain rfl:k=1:=by omega
   go_wp2_with fail
   refine (H1.out _ hb).mono ?_;rintro e w1 ⟨rfl,hb1⟩;go_wp2_with fail
   go_ret2
   exact ⟨rfl,Bt hb hb1⟩
theorem av5 (lo hi:Int) (s t:ByteArray) (b:Nat) (w:World) (h:ah w b #[.int .i64 lo,.int .i64 hi] 40) (HE:∀ W,Below w.heap.size w W→Calls Tryz.prog 196 #[.int .i64 lo] W (fun e w'=>e= .returned (.tuple #[.agg #[.string s,.string t],.int .i64 0])∧Below W.heap.size W w')) :
  Calls Tryz.prog 284 #[.pointer (some ⟨b,0,none⟩)] w (fun e w'=>e= .returned (.tuple #[.agg #[.string s,.string t],.int .i64 0])∧Below w.heap.size w w'):=by
 have H:=zh HE;clear HE;go_enter Tryz.func284,Tryz.ntmps284
 have hb:=h.alloc (.cells #[.string ⟨#[]⟩,.string ⟨#[]⟩] 32);have cb:=hb.cell;have lb:=hb.lt;go_wp2_with fail
 clear cb lb hb;obtain ⟨wx,EW,hz,HR⟩:=pJ w #[.string ⟨#[]⟩,.string ⟨#[]⟩] 32;rw [EW];clear EW;refine (H.out _ hz).mono ?_;rintro e w1 ⟨rfl,hb1⟩;have hr:=HR.out.later hb1;have cr:=hr.cell;have fr:=hr.free;have hw:=Bt hz hb1;go_wp2_with fail
 refine aK rfl rfl ((hr.set 0 _).set 1 _) Tryz.underlying32 rfl zk ?_;exact ⟨rfl,(hw.setCell (p:=⟨w.heap.size,0,none⟩) (Nat.le_refl _) _).setCell (p:=⟨w.heap.size,1,none⟩) (Nat.le_refl _) _⟩
theorem aL6 (lo hi:Int) (s t:ByteArray) (w:World) (hv:jF lo hi=true) (HE:∀ W,Below w.heap.size w W→Calls Tryz.prog 196 #[.int .i64 lo] W (fun e w'=>e= .returned (.tuple #[.agg #[.string s,.string t],.int .i64 0])∧Below W.heap.size W w')) :
  Calls Tryz.prog 244 #[.agg #[.int .i64 lo,.int .i64 hi]] w (fun e w'=>e= .returned (.tuple #[.agg #[.string s,.string t],.int .i64 0])∧Below w.heap.size w w'):=by
 have H:Hid (∀ W b q,Below w.heap.size w W→ah W b #[.int .i64 lo,.int .i64 hi] 40→ah W q #[.int .i64 lo,.int .i64 hi] 40→Calls Tryz.prog 283 #[.func (.func 284) #[] #[.pointer (some ⟨b,0,none⟩)],.slice (some ⟨q,0,none⟩) 1 1] W (fun e w'=>e= .returned (.tuple #[.agg #[.string s,.string t],.int .i64 0])∧Below W.heap.size W w')):=zh fun W b q hW h1 h2 =>
  Ql 284 #[.pointer (some ⟨b,0,none⟩)] lo hi s t q W hv h2 (fun W' hW'=>av5 lo hi s t b W' (h1.later hW') (fun W2 h3=>HE W2 (Bt hW (Bt hW' h3)))) (fun args W=>by rfl)
 clear HE hv;go_enter Tryz.func244,Tryz.ntmps244
 go_wp2_with fail
 obtain ⟨wx,EW,hz,X,R,Z⟩:=Jy w #[.int .i64 lo,.int .i64 hi] 40 #[.string ⟨#[]⟩,.string ⟨#[]⟩] 32 #[.int .i64 lo,.int .i64 hi] 40;rw [EW];clear EW;refine (H.out _ _ _ hz X.out Z.out).mono ?_;rintro e w1 ⟨rfl,hb1⟩;have hr:=R.out.later hb1;have cr:=hr.cell;have fr:=hr.free;have hw:=Bt hz hb1;clear H;go_wp2_with fail
 refine aK rfl rfl ((hr.set 0 _).set 1 _) Tryz.underlying32 rfl zk ?_;exact ⟨rfl,(hw.setCell (p:=⟨w.heap.size+1,0,none⟩) (by show w.heap.size≤w.heap.size+1;omega) _).setCell (p:=⟨w.heap.size+1,1,none⟩) (by show w.heap.size≤w.heap.size+1;omega) _⟩
theorem av9 (lo hi o1 o2:Int) (s t s1 t1 s2 t2:ByteArray) (b q:Nat) (w:World) (ho1:0≤o1) (ho2:o2≤0) (h:ah w b #[.int .i64 lo,.int .i64 hi] 40) (hq:ah w q #[.string s,.string t] 32)
  (Ol:∀ W,Below w.heap.size w W→Calls Tryz.prog 196 #[.int .i64 lo] W (fun e w'=>e= .returned (.tuple #[.agg #[.string s1,.string t1],.int .i64 0])∧Below W.heap.size W w'))
  (HE2:∀ W,Below w.heap.size w W→Calls Tryz.prog 196 #[.int .i64 hi] W (fun e w'=>e= .returned (.tuple #[.agg #[.string s2,.string t2],.int .i64 0])∧Below W.heap.size W w'))
  (HC1:∀ W,Calls Tryz.prog 19 #[.agg #[.string s,.string t],.agg #[.string s1,.string t1]] W (fun e w'=>e= .returned (.tuple #[.int .i64 o1,.int .i64 0])∧Below W.heap.size W w'))
  (HC2:∀ W,Calls Tryz.prog 19 #[.agg #[.string s,.string t],.agg #[.string s2,.string t2]] W (fun e w'=>e= .returned (.tuple #[.int .i64 o2,.int .i64 0])∧Below W.heap.size W w')) :
  Calls Tryz.prog 195 #[.pointer (some ⟨b,0,none⟩),.pointer (some ⟨q,0,none⟩)] w (fun e w'=>e= .returned (.tuple #[.bool true,.int .i64 0])∧Below w.heap.size w w'):=by
 have d1:decide (0≤o1)=true:=decide_eq_true ho1;have d2:decide (o2≤0)=true:=decide_eq_true ho2;have K1:=zh Ol;have K2:=zh HE2;have K3:=zh HC1;have K4:=zh HC2;have X:=zh h;have Y:=zh hq;clear Ol HE2 HC1 HC2 h hq ho1 ho2;go_enter Tryz.func195,Tryz.ntmps195
 have cX:=X.out.cell;have lX:=X.out.lt;go_wp2_with fail
 clear cX lX;refine (K1.out _ (Below.refl _ _)).mono ?_;rintro e w1 ⟨rfl,hb1⟩;have hx:=(X.out.later hb1).alloc (.cells #[.string s1,.string t1] 32);have cX:=hx.cell;have lX:=hx.lt;go_wp2_with fail
 clear cX lX hx;obtain ⟨w2,EW,hz,A1⟩:=pJ w1 #[.string s1,.string t1] 32;rw [EW];obtain ⟨q1,eq1⟩:∃ y,w1.heap.size=y:=⟨_,rfl⟩;rw [eq1] at A1 ⊢;have HB:=zh (Bt hb1 hz);clear EW eq1 hz hb1;refine (K2.out _ HB.out).mono ?_;rintro e w3 ⟨rfl,hb3⟩;replace HB:=zh (Bt HB.out hb3);replace A1:=zh (A1.out.later hb3);have hy:=(Y.out.later HB.out).alloc (.cells #[.string s2,.string t2] 32);have cY:=hy.cell;have lY:=hy.lt;have ha:=A1.out.alloc (.cells #[.string s2,.string t2] 32);have cA:=ha.cell;have lA:=ha.lt;go_wp2_with fail
 clear cY lY hy ha cA lA;obtain ⟨w4,EW,hz,A2⟩:=pJ w3 #[.string s2,.string t2] 32;rw [EW];obtain ⟨q2,eq2⟩:∃ y,w3.heap.size=y:=⟨_,rfl⟩;rw [eq2] at A2 ⊢;replace HB:=zh (Bt HB.out hz);clear EW eq2 hz hb3;refine (K3.out _).mono ?_;rintro e w5 ⟨rfl,hb5⟩;replace HB:=zh (Bt HB.out hb5);replace A2:=zh (A2.out.later hb5);have hy:=Y.out.later HB.out;have cY:=hy.cell;have lY:=hy.lt;have cA:=A2.out.cell;have lA:=A2.out.lt;go_wp2_with fail
 clear cY lY hy cA lA;refine (K4.out _).mono ?_;rintro e w6 ⟨rfl,hb6⟩;go_wp2_with fail
 go_ret2
 exact ⟨rfl,Bt HB.out hb6⟩
theorem aL8 (lo hi o1 o2:Int) (s t s1 t1 s2 t2:ByteArray) (w:World) (hv:jF lo hi=true) (ho1:0≤o1) (ho2:o2≤0)
  (Ol:∀ W,Below w.heap.size w W→Calls Tryz.prog 196 #[.int .i64 lo] W (fun e w'=>e= .returned (.tuple #[.agg #[.string s1,.string t1],.int .i64 0])∧Below W.heap.size W w'))
  (HE2:∀ W,Below w.heap.size w W→Calls Tryz.prog 196 #[.int .i64 hi] W (fun e w'=>e= .returned (.tuple #[.agg #[.string s2,.string t2],.int .i64 0])∧Below W.heap.size W w'))
  (HC1:∀ W,Calls Tryz.prog 19 #[.agg #[.string s,.string t],.agg #[.string s1,.string t1]] W (fun e w'=>e= .returned (.tuple #[.int .i64 o1,.int .i64 0])∧Below W.heap.size W w'))
  (HC2:∀ W,Calls Tryz.prog 19 #[.agg #[.string s,.string t],.agg #[.string s2,.string t2]] W (fun e w'=>e= .returned (.tuple #[.int .i64 o2,.int .i64 0])∧Below W.heap.size W w')) :
  Calls Tryz.prog 117 #[.agg #[.int .i64 lo,.int .i64 hi],.agg #[.string s,.string t]] w (fun e w'=>e= .returned (.tuple #[.bool true,.int .i64 0])∧Below w.heap.size w w'):=by
 have H:Hid (∀ W b c q,Below w.heap.size w W→ah W b #[.int .i64 lo,.int .i64 hi] 40→ah W c #[.string s,.string t] 32→ah W q #[.int .i64 lo,.int .i64 hi] 40→Calls Tryz.prog 194 #[.func (.func 195) #[] #[.pointer (some ⟨b,0,none⟩),.pointer (some ⟨c,0,none⟩)],.slice (some ⟨q,0,none⟩) 1 1] W (fun e w'=>e= .returned (.tuple #[.bool true,.int .i64 0])∧Below W.heap.size W w')):=zh fun W b c q hW h1 h2 h3 =>
  ae9 195 #[.pointer (some ⟨b,0,none⟩),.pointer (some ⟨c,0,none⟩)] lo hi q W hv h3 (fun W' hW'=>av9 lo hi o1 o2 s t s1 t1 s2 t2 b c W' ho1 ho2 (h1.later hW') (h2.later hW') (fun W2 h4=>Ol W2 (Bt hW (Bt hW' h4))) (fun W2 h4=>HE2 W2 (Bt hW (Bt hW' h4))) HC1 HC2) (fun args W=>by rfl)
 clear Ol HE2 HC1 HC2 hv ho1 ho2;go_enter Tryz.func117,Tryz.ntmps117
 go_wp2_with fail
 obtain ⟨wx,EW,hz,X,R,Z⟩:=Jy w #[.int .i64 lo,.int .i64 hi] 40 #[.string s,.string t] 32 #[.int .i64 lo,.int .i64 hi] 40;rw [EW];clear EW;refine (H.out _ _ _ _ hz X.out R.out Z.out).mono ?_;rintro e w1 ⟨rfl,hb1⟩;clear H;go_wp2_with fail
 go_ret2
 exact ⟨rfl,Bt hz hb1⟩
def aG1 (a b:Int × Int):(Int × Int) × Int:=if b.1≤0∧0≤b.2 then ((0,0),7) else xH (fun x y up=>pQ x 1000000000000 y up) a b
def ae1 (a b:Int × Int):(Int × Int) × Int:=if okB [a,b] then aG1 a b else ((0,0),30)
def Zm (b:Int × Int) (n d:Int):(Int × Int) × Int:=if n< -1000000000000∨1000000000000<n∨d<1∨1000000000000<d then ((0,0),2) else xH (fun x y up=>pQ x y d up) b (n,n)
def yI (b:Int × Int) (n d:Int):(Int × Int) × Int:=if okB [b] then Zm b n d else ((0,0),30)
def aG7 (b:Int × Int) (lo hi:Int):(Int × Int) × Int:=if jF lo hi then jR (min (max b.1 lo) hi) (min (max b.2 lo) hi) else ((0,0),2)
def ae7 (b:Int × Int) (lo hi:Int):(Int × Int) × Int:=if okB [b] then aG7 b lo hi else ((0,0),30)
def Zr (n:Int):(Int × Int) × Int:=if jF n n then ((n,n),0) else ((0,0),30)
def an8 (b:Int × Int):Fr × Int:=if jF b.1 b.2 then qE b.1 1000000000000 else (Fr.no,30)
def VD (b:Int × Int):Fr × Int:=if jF b.1 b.2 then qE b.2 1000000000000 else (Fr.no,30)
theorem GH {lo hi:Int} (h:jF lo hi=true):lo.natAbs≤1000000000000000000∧hi.natAbs≤1000000000000000000∧lo≤hi:=by
 obtain ⟨h1,h2,h3⟩: -1000000000000000000≤lo∧lo≤hi∧hi≤1000000000000000000:=by simpa [jF] using h
 exact ⟨by omega,by omega,h2⟩
theorem Vk {a:Int × Int} (h:jF a.1 a.2=true) (k:Nat):(Pf a k).natAbs≤1000000000000000000:=by
 unfold Pf;have:=GH h;split<;>omega
theorem am2 {a:Int × Int} (h:jF a.1 a.2=true) (k:Nat):(MS a k).natAbs≤1000000000000000000:=by
 unfold MS;have:=GH h;split<;>omega
theorem aw1 (x y:Int) (up:Bool) (hx:x.natAbs≤1000000000000000000) (hy:y≠0) (hy2:y.natAbs≤1000000000000000000) (w:World) :
  Calls Tryz.prog 161 #[.int .i64 x,.int .i64 y,.bool up] w (fun e w'=>e= .returned (.tuple #[.int .i64 (pQ x 1000000000000 y up).1,.bool (pQ x 1000000000000 y up).2])∧Below w.heap.size w w'):=by
 have H:=zh (fun W=>Gq x 1000000000000 y up hx zo hy hy2 W);generalize pQ x 1000000000000 y up=z at *;obtain ⟨z1,z2⟩:=z;simp only at *;clear hx hy hy2;go_enter Tryz.func161,Tryz.ntmps161
 go_wp2_with fail
 refine (H.out _).mono ?_;rintro e w1 ⟨rfl,hb⟩;go_wp2_with fail
 go_ret2
 exact ⟨rfl,hb⟩
theorem aw2 (x y z t:Int) (h0:okB [(x,y),(z,t)]=true) (b c:Nat) (w:World) (h:ah w b #[.int .i64 x,.int .i64 y] 40) (k:ah w c #[.int .i64 z,.int .i64 t] 40) :
  Calls Tryz.prog 160 #[.pointer (some ⟨c,0,none⟩),.pointer (some ⟨b,0,none⟩)] w (fun e w'=>e= .returned (gZ (aG1 (x,y) (z,t)))∧Below w.heap.size w w'):=by
 have h0':jF x y=true∧jF z t=true:=by simpa [okB] using h0
 have ha:=Vk (a:=(x,y)) h0'.1;have hc:=am2 (a:=(z,t)) h0'.2;obtain ⟨z1,z2,z3⟩:=GH h0'.2
 have H:Hid (¬ (z≤0∧0≤t)→∀ W,Calls Tryz.prog 100 #[.agg #[.int .i64 x,.int .i64 y],.agg #[.int .i64 z,.int .i64 t],.func (.func 161) #[] #[]] W (fun e w'=>e= .returned (gZ (xH (fun x y up=>pQ x 1000000000000 y up) (x,y) (z,t)))∧Below W.heap.size W w')):=zh fun hn W =>
  yB (fun x y up=>pQ x 1000000000000 y up) 161 #[] x y z t W (fun k up W' _=>aw1 _ _ up (ha k) (by unfold MS;split<;>simp only<;>omega) (hc k) W') (fun args W=>by rfl)
 have e:aG1 (x,y) (z,t)=if z≤0∧0≤t then ((0,0),7) else xH (fun x y up=>pQ x 1000000000000 y up) (x,y) (z,t):=rfl
 rw [e];generalize xH (fun x y up=>pQ x 1000000000000 y up) (x,y) (z,t)=m at *;clear h0 h0' ha hc z1 z2 z3 e;obtain ⟨⟨m1,m2⟩,m3⟩:=m;have HX:=zh h;have HY:=zh k;clear h k
 by_cases hn:z≤0∧0≤t
 ·rw [if_pos hn];obtain ⟨g1,g2⟩:=hn;unfold gZ at *;simp only at *;clear H;obtain ⟨cx,lx,fx⟩:=HY.clf;go_enter Tryz.func160,Tryz.ntmps160
  go_wp2_with fail
  have hx:=ah.new w #[.int .i64 0,.int .i64 0] 40;refine aK rfl rfl aH Tryz.underlying40 rfl zk ?_;exact ⟨rfl,au⟩
 ·rw [if_neg hn];replace H:=zh (H.out hn);unfold gZ at *;simp only at *
  have g:decide (z≤0)=false∨(decide (z≤0)=true∧decide (0≤t)=false):=by
   by_cases g1:z≤0
   ·exact .inr ⟨decide_eq_true g1,decide_eq_false (fun g2=>hn ⟨g1,g2⟩)⟩
   ·exact .inl (decide_eq_false g1)
  clear hn;obtain ⟨cx,lx,fx⟩:=HX.clf;obtain ⟨cy,ly,fy⟩:=HY.clf
  rcases g with g1|⟨g1,g2⟩
  all_goals
   simp only [decide_eq_false_iff_not,decide_eq_true_eq] at *;go_enter Tryz.func160,Tryz.ntmps160
   go_wp2_with fail
   refine (H.out _).mono ?_;rintro e w1 ⟨rfl,hb1⟩;have hx:=ah.later (ah.new w #[.int .i64 0,.int .i64 0] 40) hb1;have cr:=hx.cell;have fr:=hx.free;have lr:=hx.lt;have hw:=Bt (show Below w.heap.size w (w.alloc (.cells #[.int .i64 0,.int .i64 0] 40)) from au) hb1;go_wp2_with fail
   refine aK rfl rfl aH Tryz.underlying40 rfl zk ?_;exact ⟨rfl,au⟩
theorem Ju (x y z t:Int) (w:World):Calls Tryz.prog 74 #[.agg #[.int .i64 x,.int .i64 y],.agg #[.int .i64 z,.int .i64 t]] w (fun e w'=>e= .returned (gZ (ae1 (x,y) (z,t)))∧Below w.heap.size w w'):=by
 have H:Hid (∀ W b c d,ah W b #[.int .i64 x,.int .i64 y] 40→ah W c #[.int .i64 z,.int .i64 t] 40→ah W d #[.int .i64 x,.int .i64 y,.int .i64 z,.int .i64 t] 40→Calls Tryz.prog 97 #[.func (.func 160) #[] #[.pointer (some ⟨c,0,none⟩),.pointer (some ⟨b,0,none⟩)],.slice (some ⟨d,0,none⟩) 2 2] W (fun e w'=>e= .returned (gZ (ae1 (x,y) (z,t)))∧Below W.heap.size W w')):=zh fun W b c d h1 h2 h3 =>
  oh 160 #[.pointer (some ⟨c,0,none⟩),.pointer (some ⟨b,0,none⟩)] _ _ _ _ W (Bf.two h3) (fun h W' hW'=>aw2 x y z t h b c W' (h1.later hW') (h2.later hW')) (fun args W=>by rfl)
 generalize ae1 (x,y) (z,t)=m at *;obtain ⟨⟨m1,m2⟩,m3⟩:=m;unfold gZ at *;simp only at *;go_enter Tryz.func74,Tryz.ntmps74
 go_wp2_with fail
 obtain ⟨wx,EW,hz,X,Y,R,Z⟩:=al4 w #[.int .i64 x,.int .i64 y] 40 #[.int .i64 z,.int .i64 t] 40 #[.int .i64 0,.int .i64 0] 40 #[.int .i64 x,.int .i64 y,.int .i64 z,.int .i64 t] 40;rw [EW];clear EW;have HB:=zh hz;clear hz;refine (H.out _ _ _ _ X.out Y.out Z.out).mono ?_;rintro e w1 ⟨rfl,hb1⟩;replace R:=R.bl hb1;replace HB:=zh (Bt HB.out hb1);clear hb1 H;have hx:=R.out;have cx:=hx.cell;have fx:=hx.free;have lx:=hx.lt;have hw:=HB.out;go_wp2_with fail
 refine aK rfl rfl aH Tryz.underlying40 rfl zk ?_;exact ⟨rfl,au⟩
theorem Yf (x y d:Int) (up:Bool) (hx:x.natAbs≤1000000000000000000) (hy:y.natAbs≤1000000000000000000) (hd:d≠0) (hd2:d.natAbs≤1000000000000000000) (c:Nat) (w:World) (h:ah w c #[.int .i64 d] 3) :
  Calls Tryz.prog 204 #[.int .i64 x,.int .i64 y,.bool up,.pointer (some ⟨c,0,none⟩)] w (fun e w'=>e= .returned (.tuple #[.int .i64 (pQ x y d up).1,.bool (pQ x y d up).2])∧Below w.heap.size w w'):=by
 have H:=zh (fun W=>Gq x y d up hx hy hd hd2 W);generalize pQ x y d up=z at *;obtain ⟨z1,z2⟩:=z;have cc:=h.cell;have lc:=h.lt;simp only at *;clear hx hy hd hd2 h;go_enter Tryz.func204,Tryz.ntmps204
 go_wp2_with fail
 refine (H.out _).mono ?_;rintro e w1 ⟨rfl,hb⟩;go_wp2_with fail
 go_ret2
 exact ⟨rfl,hb⟩
theorem Yg (x y n d:Int) (h0:okB [(x,y)]=true) (bn bd b:Nat) (w:World) (hn:ah w bn #[.int .i64 n] 3) (hd:ah w bd #[.int .i64 d] 3) (h:ah w b #[.int .i64 x,.int .i64 y] 40) :
  Calls Tryz.prog 203 #[.pointer (some ⟨bn,0,none⟩),.pointer (some ⟨bd,0,none⟩),.pointer (some ⟨b,0,none⟩)] w (fun e w'=>e= .returned (gZ (Zm (x,y) n d))∧Below w.heap.size w w'):=by
 have h0':jF x y=true:=by simpa [okB] using h0
 have ha:=Vk (a:=(x,y)) h0'
 have H:Hid (¬ (n< -1000000000000∨1000000000000<n∨d<1∨1000000000000<d)→∀ W,Below w.heap.size w W→Calls Tryz.prog 100 #[.agg #[.int .i64 x,.int .i64 y],.agg #[.int .i64 n,.int .i64 n],.func (.func 204) #[] #[.pointer (some ⟨bd,0,none⟩)]] W (fun e w'=>e= .returned (gZ (xH (fun x y up=>pQ x y d up) (x,y) (n,n)))∧Below W.heap.size W w')):=zh fun hg W hW =>
  yB (fun x y up=>pQ x y d up) 204 #[.pointer (some ⟨bd,0,none⟩)] x y n n W (fun k up W' hW'=>Yf _ _ d up (ha k) (by unfold MS;split<;>simp only<;>omega) zo zo bd W' ((hd.later hW).later hW')) (fun args W=>by rfl)
 have e:Zm (x,y) n d=if n< -1000000000000∨1000000000000<n∨d<1∨1000000000000<d then ((0,0),2) else xH (fun x y up=>pQ x y d up) (x,y) (n,n):=rfl
 rw [e];generalize xH (fun x y up=>pQ x y d up) (x,y) (n,n)=m at *;obtain ⟨⟨m1,m2⟩,m3⟩:=m;have HX:=zh h;have HN:=zh hn;have HD:=zh hd;clear h0 h0' ha e h hn hd;obtain ⟨cn,ln,fn⟩:=HN.clf;obtain ⟨cd,ld,fd⟩:=HD.clf
 by_cases hg:n< -1000000000000∨1000000000000<n∨d<1∨1000000000000<d
 ·rw [if_pos hg];clear H;have g:n< -1000000000000∨(¬ n< -1000000000000∧1000000000000<n)∨(¬ n< -1000000000000∧¬ 1000000000000<n∧d<1)∨(¬ n< -1000000000000∧¬ 1000000000000<n∧¬ d<1∧1000000000000<d):=by omega
  clear hg;unfold gZ;simp only
  rcases g with g1|⟨g1,g2⟩|⟨g1,g2,g3⟩|⟨g1,g2,g3,g4⟩
  all_goals
   go_enter Tryz.func203,Tryz.ntmps203
   go_wp2_with fail
   have hx:=ah.new w #[.int .i64 0,.int .i64 0] 40;refine aK rfl rfl aH Tryz.underlying40 rfl zk ?_;exact ⟨rfl,au⟩
 ·rw [if_neg hg];replace H:=zh (H.out hg);have g1:¬ n< -1000000000000:=by omega
  have g2:¬ 1000000000000<n:=by omega
  have g3:¬ d<1:=by omega
  have g4:¬ 1000000000000<d:=by omega
  clear hg;unfold gZ at *;simp only at *;obtain ⟨cx,lx,fx⟩:=HX.clf;go_enter Tryz.func203,Tryz.ntmps203
  go_wp2_with fail
  refine (H.out _ au).mono ?_;rintro e w1 ⟨rfl,hb1⟩;have hx:=ah.later (ah.new w #[.int .i64 0,.int .i64 0] 40) hb1;have cr:=hx.cell;have fr:=hx.free;have lr:=hx.lt;have hw:=Bt (show Below w.heap.size w (w.alloc (.cells #[.int .i64 0,.int .i64 0] 40)) from au) hb1;go_wp2_with fail
  refine aK rfl rfl aH Tryz.underlying40 rfl zk ?_;exact ⟨rfl,au⟩
theorem Yr (x y lo hi:Int) (h0:okB [(x,y)]=true) (bn bd b:Nat) (w:World) (hn:ah w bn #[.int .i64 lo] 3) (hd:ah w bd #[.int .i64 hi] 3) (h:ah w b #[.int .i64 x,.int .i64 y] 40) :
  Calls Tryz.prog 159 #[.pointer (some ⟨bn,0,none⟩),.pointer (some ⟨bd,0,none⟩),.pointer (some ⟨b,0,none⟩)] w (fun e w'=>e= .returned (gZ (aG7 (x,y) lo hi))∧Below w.heap.size w w'):=by
 have HV:=zh (fun W=>nQ lo hi W);have HM:=zh (fun W=>qz (min (max x lo) hi) (min (max y lo) hi) W);have e:aG7 (x,y) lo hi=if jF lo hi then jR (min (max x lo) hi) (min (max y lo) hi) else ((0,0),2):=rfl
 rw [e];generalize jR (min (max x lo) hi) (min (max y lo) hi)=m at *;generalize jF lo hi=v at *;obtain ⟨⟨m1,m2⟩,m3⟩:=m;have HX:=zh h;have HN:=zh hn;have HD:=zh hd;clear h0 e h hn hd;unfold gZ at *;simp only at *;cases v
 ·obtain ⟨cn,ln,fn⟩:=HN.clf;obtain ⟨cd,ld,fd⟩:=HD.clf;go_enter Tryz.func159,Tryz.ntmps159
  go_wp2_with fail
  refine (HV.out _).mono ?_;rintro e w1 ⟨rfl,hb1⟩;have hx:=ah.later (ah.new w #[.int .i64 0,.int .i64 0] 40) hb1;have cr:=hx.cell;have fr:=hx.free;have lr:=hx.lt;have hw:=Bt (show Below w.heap.size w (w.alloc (.cells #[.int .i64 0,.int .i64 0] 40)) from au) hb1;go_wp2_with fail
  refine aK rfl rfl aH Tryz.underlying40 rfl zk ?_;exact ⟨rfl,au⟩
 ·obtain ⟨cn,ln,fn⟩:=HN.clf;obtain ⟨cd,ld,fd⟩:=HD.clf;go_enter Tryz.func159,Tryz.ntmps159
  go_wp2_with fail
  refine (HV.out _).mono ?_;rintro e w1 ⟨rfl,hb1⟩;have hw:=Bt (show Below w.heap.size w (w.alloc (.cells #[.int .i64 0,.int .i64 0] 40)) from au) hb1;have hx:=ah.later (ah.new w #[.int .i64 0,.int .i64 0] 40) hb1;clear cn ln fn cd ld fd;obtain ⟨cn,ln,fn⟩:=(HN.bl hw).clf;obtain ⟨cd,ld,fd⟩:=(HD.bl hw).clf;obtain ⟨cx,lx,fx⟩:=(HX.bl hw).clf;go_wp2_with fail
  refine (HM.out _).mono ?_;rintro e w2 ⟨rfl,hb2⟩;replace hx:=hx.later hb2;replace hw:=Bt hw hb2;have cr:=hx.cell;have fr:=hx.free;have lr:=hx.lt;clear cn ln fn cd ld fd cx lx fx hb1 hb2;go_wp2_with fail
  refine aK rfl rfl aH Tryz.underlying40 rfl zk ?_;exact ⟨rfl,au⟩
theorem ag8 (x y n d:Int) (w:World):Calls Tryz.prog 130 #[.agg #[.int .i64 x,.int .i64 y],.int .i64 n,.int .i64 d] w (fun e w'=>e= .returned (gZ (yI (x,y) n d))∧Below w.heap.size w w'):=by
 have H:Hid (∀ W bn bd b c,ah W bn #[.int .i64 n] 3→ah W bd #[.int .i64 d] 3→ah W b #[.int .i64 x,.int .i64 y] 40→ah W c #[.int .i64 x,.int .i64 y] 40→Calls Tryz.prog 97 #[.func (.func 203) #[] #[.pointer (some ⟨bn,0,none⟩),.pointer (some ⟨bd,0,none⟩),.pointer (some ⟨b,0,none⟩)],.slice (some ⟨c,0,none⟩) 1 1] W (fun e w'=>e= .returned (gZ (yI (x,y) n d))∧Below W.heap.size W w')):=zh fun W bn bd b c h1 h2 h3 h4 =>
  oh 203 #[.pointer (some ⟨bn,0,none⟩),.pointer (some ⟨bd,0,none⟩),.pointer (some ⟨b,0,none⟩)] _ _ _ _ W (Bf.one h4) (fun h W' hW'=>Yg x y n d h bn bd b W' (h1.later hW') (h2.later hW') (h3.later hW')) (fun args W=>by rfl)
 generalize yI (x,y) n d=z at *;obtain ⟨⟨z1,z2⟩,z3⟩:=z;unfold gZ at *;simp only at *;go_enter Tryz.func130,Tryz.ntmps130
 go_wp2_with fail
 obtain ⟨wx,EW,hz,X,N,D,R,Z⟩:=aJ2 w #[.int .i64 x,.int .i64 y] 40 #[.int .i64 n] 3 #[.int .i64 d] 3 #[.int .i64 0,.int .i64 0] 40 #[.int .i64 x,.int .i64 y] 40;rw [EW];clear EW;have HB:=zh hz;clear hz;refine (H.out _ _ _ _ _ N.out D.out X.out Z.out).mono ?_;rintro e w1 ⟨rfl,hb1⟩;replace R:=R.bl hb1;replace HB:=zh (Bt HB.out hb1);clear hb1 H;have hx:=R.out;have cx:=hx.cell;have fx:=hx.free;have lx:=hx.lt;have hw:=HB.out;go_wp2_with fail
 refine aK rfl rfl aH Tryz.underlying40 rfl zk ?_;exact ⟨rfl,au⟩
theorem ai5 (x y n d:Int) (w:World):Calls Tryz.prog 73 #[.agg #[.int .i64 x,.int .i64 y],.int .i64 n,.int .i64 d] w (fun e w'=>e= .returned (gZ (ae7 (x,y) n d))∧Below w.heap.size w w'):=by
 have H:Hid (∀ W bn bd b c,ah W bn #[.int .i64 n] 3→ah W bd #[.int .i64 d] 3→ah W b #[.int .i64 x,.int .i64 y] 40→ah W c #[.int .i64 x,.int .i64 y] 40→Calls Tryz.prog 97 #[.func (.func 159) #[] #[.pointer (some ⟨bn,0,none⟩),.pointer (some ⟨bd,0,none⟩),.pointer (some ⟨b,0,none⟩)],.slice (some ⟨c,0,none⟩) 1 1] W (fun e w'=>e= .returned (gZ (ae7 (x,y) n d))∧Below W.heap.size W w')):=zh fun W bn bd b c h1 h2 h3 h4 =>
  oh 159 #[.pointer (some ⟨bn,0,none⟩),.pointer (some ⟨bd,0,none⟩),.pointer (some ⟨b,0,none⟩)] _ _ _ _ W (Bf.one h4) (fun h W' hW'=>Yr x y n d h bn bd b W' (h1.later hW') (h2.later hW') (h3.later hW')) (fun args W=>by rfl)
 generalize ae7 (x,y) n d=z at *;obtain ⟨⟨z1,z2⟩,z3⟩:=z;unfold gZ at *;simp only at *;go_enter Tryz.func73,Tryz.ntmps73
 go_wp2_with fail
 obtain ⟨wx,EW,hz,X,N,D,R,Z⟩:=aJ2 w #[.int .i64 x,.int .i64 y] 40 #[.int .i64 n] 3 #[.int .i64 d] 3 #[.int .i64 0,.int .i64 0] 40 #[.int .i64 x,.int .i64 y] 40;rw [EW];clear EW;have HB:=zh hz;clear hz;refine (H.out _ _ _ _ _ N.out D.out X.out Z.out).mono ?_;rintro e w1 ⟨rfl,hb1⟩;replace R:=R.bl hb1;replace HB:=zh (Bt HB.out hb1);clear hb1 H;have hx:=R.out;have cx:=hx.cell;have fx:=hx.free;have lx:=hx.lt;have hw:=HB.out;go_wp2_with fail
 refine aK rfl rfl aH Tryz.underlying40 rfl zk ?_;exact ⟨rfl,au⟩
theorem ah2 (n:Int) (w:World):Calls Tryz.prog 131 #[.int .i64 n] w (fun e w'=>e= .returned (gZ (Zr n))∧Below w.heap.size w w'):=by
 have H:Hid (∀ W,Calls Tryz.prog 183 #[.int .i64 n,.int .i64 n] W (fun e w'=>e= .returned (gZ (Zr n))∧Below W.heap.size W w')):=zh fun W=>by
  have h:=tZ n n W;unfold Zr gZ
  revert h
  cases jF n n<;>exact fun h=>h
 generalize Zr n=z at *;obtain ⟨⟨z1,z2⟩,z3⟩:=z;unfold gZ at *;simp only at *;go_enter Tryz.func131,Tryz.ntmps131
 go_wp2_with fail
 obtain ⟨wx,EW,hz,R⟩:=pJ w #[.int .i64 0,.int .i64 0] 40;rw [EW];clear EW;have HB:=zh hz;clear hz;refine (H.out _).mono ?_;rintro e w1 ⟨rfl,hb1⟩;replace R:=R.bl hb1;replace HB:=zh (Bt HB.out hb1);clear hb1 H;have hx:=R.out;have cx:=hx.cell;have fx:=hx.free;have lx:=hx.lt;have hw:=HB.out;go_wp2_with fail
 refine aK rfl rfl aH Tryz.underlying40 rfl zk ?_;exact ⟨rfl,au⟩
theorem ah6 (lo hi:Int) (s t:ByteArray) (b:Nat) (w:World) (h:ah w b #[.int .i64 lo,.int .i64 hi] 40) (HE:∀ W,Below w.heap.size w W→Calls Tryz.prog 196 #[.int .i64 hi] W (fun e w'=>e= .returned (.tuple #[.agg #[.string s,.string t],.int .i64 0])∧Below W.heap.size W w')) :
  Calls Tryz.prog 285 #[.pointer (some ⟨b,0,none⟩)] w (fun e w'=>e= .returned (.tuple #[.agg #[.string s,.string t],.int .i64 0])∧Below w.heap.size w w'):=by
 have H:=zh HE;clear HE;go_enter Tryz.func285,Tryz.ntmps285
 have hb:=h.alloc (.cells #[.string ⟨#[]⟩,.string ⟨#[]⟩] 32);have cb:=hb.cell;have lb:=hb.lt;go_wp2_with fail
 clear cb lb hb;obtain ⟨wx,EW,hz,HR⟩:=pJ w #[.string ⟨#[]⟩,.string ⟨#[]⟩] 32;rw [EW];clear EW;refine (H.out _ hz).mono ?_;rintro e w1 ⟨rfl,hb1⟩;have hr:=HR.out.later hb1;have cr:=hr.cell;have fr:=hr.free;have hw:=Bt hz hb1;go_wp2_with fail
 refine aK rfl rfl ((hr.set 0 _).set 1 _) Tryz.underlying32 rfl zk ?_;exact ⟨rfl,(hw.setCell (p:=⟨w.heap.size,0,none⟩) (Nat.le_refl _) _).setCell (p:=⟨w.heap.size,1,none⟩) (Nat.le_refl _) _⟩
theorem av8 (lo hi:Int) (s t:ByteArray) (w:World) (hv:jF lo hi=true) (HE:∀ W,Below w.heap.size w W→Calls Tryz.prog 196 #[.int .i64 hi] W (fun e w'=>e= .returned (.tuple #[.agg #[.string s,.string t],.int .i64 0])∧Below W.heap.size W w')) :
  Calls Tryz.prog 245 #[.agg #[.int .i64 lo,.int .i64 hi]] w (fun e w'=>e= .returned (.tuple #[.agg #[.string s,.string t],.int .i64 0])∧Below w.heap.size w w'):=by
 have H:Hid (∀ W b q,Below w.heap.size w W→ah W b #[.int .i64 lo,.int .i64 hi] 40→ah W q #[.int .i64 lo,.int .i64 hi] 40→Calls Tryz.prog 283 #[.func (.func 285) #[] #[.pointer (some ⟨b,0,none⟩)],.slice (some ⟨q,0,none⟩) 1 1] W (fun e w'=>e= .returned (.tuple #[.agg #[.string s,.string t],.int .i64 0])∧Below W.heap.size W w')):=zh fun W b q hW h1 h2 =>
  Ql 285 #[.pointer (some ⟨b,0,none⟩)] lo hi s t q W hv h2 (fun W' hW'=>ah6 lo hi s t b W' (h1.later hW') (fun W2 h3=>HE W2 (Bt hW (Bt hW' h3)))) (fun args W=>by rfl)
 clear HE hv;go_enter Tryz.func245,Tryz.ntmps245
 go_wp2_with fail
 obtain ⟨wx,EW,hz,X,R,Z⟩:=Jy w #[.int .i64 lo,.int .i64 hi] 40 #[.string ⟨#[]⟩,.string ⟨#[]⟩] 32 #[.int .i64 lo,.int .i64 hi] 40;rw [EW];clear EW;refine (H.out _ _ _ hz X.out Z.out).mono ?_;rintro e w1 ⟨rfl,hb1⟩;have hr:=R.out.later hb1;have cr:=hr.cell;have fr:=hr.free;have hw:=Bt hz hb1;clear H;go_wp2_with fail
 refine aK rfl rfl ((hr.set 0 _).set 1 _) Tryz.underlying32 rfl zk ?_;exact ⟨rfl,(hw.setCell (p:=⟨w.heap.size+1,0,none⟩) (by show w.heap.size≤w.heap.size+1;omega) _).setCell (p:=⟨w.heap.size+1,1,none⟩) (by show w.heap.size≤w.heap.size+1;omega) _⟩
end Go.Proofs.aQ
namespace Go.Proofs.fM
open Go Go.RowKit Go.SW Go.Num Go.Mem Go.Proofs Go.Dec Go.jQ
theorem am3 (p:Rat) (h:0≤p) (n:Nat):((p^n).num=((p.num.natAbs^n:Nat):Int))∧(p^n).den=p.den^n:=by
 have h0:0≤p.num:=by
  rw [Rat.num_nonneg];exact h
 refine ⟨?_,Rat.den_pow p n⟩;rw [Rat.num_pow,Int.natCast_pow,Int.natAbs_of_nonneg h0]
theorem zu (p:Rat) (n:Nat) (hp:wD p=true) (h0:0≤p) (n40:n≤40) (w:World) (ht:jw.Pow w) :
  Calls Tryz.prog 127 #[(Fr.of p).v,.int .i64 (n:Int)] w (fun e w'=>e= .returned (Fr.res (wr (p^n)))∧Below w.heap.size w w'):=by
 obtain ⟨e1,e2⟩:=am3 p h0 n
 have hn0:0≤p.num:=by
  rw [Rat.num_nonneg];exact h0
 have hq:=oQ hp;have HC:=zh (fun W=>nT (Fr.of p) W);unfold BS at HC;rw [hq] at HC;obtain ⟨o1,o2⟩:nC p.num.natAbs=true∧nC p.den=true:=by simpa [wD] using hp
 have H1:=zh (fun W h=>whole.zu p.num.natAbs n o1 n40 W h);have H2:=zh (fun W h=>whole.zu p.den n o2 n40 W h);have HP:=zh ht
 have ev:(Fr.of p).v= .agg #[dP ((p.num.natAbs:Nat):Int),dP ((p.den:Nat):Int)]:=by
  rw [Int.natAbs_of_nonneg hn0];rfl
 have er:Fr.res (wr (p^n))=if nC (p.num.natAbs^n)=true then if nC (p.den^n)=true then .tuple #[.agg #[dP ((p.num.natAbs^n:Nat):Int),dP ((p.den^n:Nat):Int)],.int .i64 0] else .tuple #[.agg #[.string ⟨#[]⟩,.string ⟨#[]⟩],.int .i64 6] else .tuple #[.agg #[.string ⟨#[]⟩,.string ⟨#[]⟩],.int .i64 6]:=by
  have eo:wD (p^n)=(nC (p.num.natAbs^n)&&nC (p.den^n)):=by
   unfold wD;rw [e1,e2,Int.natAbs_natCast]
  by_cases k1:nC (p.num.natAbs^n)=true
  ·rw [if_pos k1]
   by_cases k2:nC (p.den^n)=true
   ·rw [if_pos k2,aw5 (by rw [eo,k1,k2];rfl),e1,e2]
   ·rw [if_neg k2,LJ (by rw [eo,k1];simpa using k2)]
  ·rw [if_neg k1,LJ (by rw [eo];simp [k1])]
 rw [ev] at HC ⊢;rw [er];unfold whole.Dz at H1 H2;simp only [Int.natAbs_natCast] at H1 H2;clear e1 e2 hn0 hq o1 o2 ht ev er hp h0;simp only [Option.isSome_some,if_true] at HC;obtain ⟨oa,Ea⟩:∃ y,nC (p.num.natAbs^n)=y:=⟨_,rfl⟩;obtain ⟨ob,Eb⟩:∃ y,nC (p.den^n)=y:=⟨_,rfl⟩;simp only [Ea] at H1 ⊢;simp only [Eb] at H2 ⊢;clear Ea Eb;generalize p.num.natAbs^n=an at *;generalize p.den^n=bn at *;generalize p.num.natAbs=a at *;generalize p.den=b at *;unfold dP at *;generalize (⟨(Lib.itoa (a:Int)).toArray⟩:ByteArray)=ta at *;generalize (⟨(Lib.itoa (b:Int)).toArray⟩:ByteArray)=tb at *;generalize (⟨(Lib.itoa (an:Int)).toArray⟩:ByteArray)=tan at *;generalize (⟨(Lib.itoa (bn:Int)).toArray⟩:ByteArray)=tbn at *;go_enter Tryz.func127,Tryz.ntmps127
 go_wp2_with fail
 obtain ⟨wx,EW,hz,X,R⟩:=uH w #[.string ta,.string tb] 32 #[.string ⟨#[]⟩,.string ⟨#[]⟩] 32;rw [EW];clear EW;have HB:=zh hz;clear hz;obtain ⟨bx,eb⟩:∃ y,w.heap.size=y:=⟨_,rfl⟩;rw [eb] at X R ⊢;refine (HC.out _).mono ?_;rintro e w1 ⟨rfl,hb1⟩;replace X:=X.bl hb1;replace R:=R.bl hb1;replace HB:=zh (Bt HB.out hb1);clear hb1 HC;obtain ⟨cX,lX⟩:=X.cl;go_wp2_with fail
 refine (H1.out _ (HP.out.later HB.out)).mono ?_;rintro e w2 ⟨rfl,hb2⟩;replace X:=X.bl hb2;replace R:=R.bl hb2;replace HB:=zh (Bt HB.out hb2);clear hb2 H1 cX lX;obtain ⟨cX,lX⟩:=X.cl
 by_cases k1:oa=true
 ·simp only [if_pos k1];go_wp2_with fail
  refine (H2.out _ (HP.out.later HB.out)).mono ?_;rintro e w3 ⟨rfl,hb3⟩;replace R:=R.bl hb3;replace HB:=zh (Bt HB.out hb3);clear hb3 H2 cX lX X;have hx:=R.out;have cx:=hx.cell;have fx:=hx.free;have lx:=hx.lt;have hw:=HB.out;rw [eb] at hw
  by_cases k2:ob=true
  ·simp only [if_pos k2];go_wp2_with fail
   refine aK rfl rfl aH Tryz.underlying32 rfl zk ?_;exact ⟨rfl,au⟩
  ·simp only [if_neg k2];go_wp2_with fail
   refine aK rfl rfl aH Tryz.underlying32 rfl zk ?_;exact ⟨rfl,au⟩
 ·simp only [if_neg k1];have hx:=R.out;have cx:=hx.cell;have fx:=hx.free;have lx:=hx.lt;have hw:=HB.out;rw [eb] at hw;go_wp2_with fail
  refine aK rfl rfl aH Tryz.underlying32 rfl zk ?_;exact ⟨rfl,au⟩
end Go.Proofs.fM
namespace Go.Proofs.power
open Go Go.RowKit Go.SW Go.Num Go.Mem Go.Proofs Go.Dec Go.jQ Go.Proofs.whole Go.Proofs.aQ
theorem Pp (lo hi:ByteArray) (f:Value) (F:FuncId) (caps free:Array Value) (a b:Int × Int) (w:World) (hf:f= .func (.func F) caps free)
  (h1:∀ W,Below w.heap.size w W→Calls Tryz.prog F (caps++#[.string lo,.bool false]) W (fun e w'=>e= .returned (.tuple #[.int .i64 a.1,.int .i64 a.2])∧Below W.heap.size W w'))
  (h2:∀ W,Below w.heap.size w W→Calls Tryz.prog F (caps++#[.string hi,.bool true]) W (fun e w'=>e= .returned (.tuple #[.int .i64 b.1,.int .i64 b.2])∧Below W.heap.size W w')) (hfr:free=#[])
  (hen:∀ args W,(callFunc F args).run Tryz.prog W= .ok (.enter F args) W) :
  Calls Tryz.prog 155 #[.string lo,.string hi,f] w (fun e w'=>e= .returned (Xk a b)∧Below w.heap.size w w'):=by
 subst hf hfr;obtain ⟨a1,a2⟩:=a;obtain ⟨b1,b2⟩:=b;have H1:=zh h1;have H2:=zh h2;have HO:=zh (fun W=>tZ a1 b1 W);unfold Xk;simp only;clear h1 h2;go_enter Tryz.func155,Tryz.ntmps155
 go_wp2_with fail
 refine (H1.out _ au).mono ?_;rintro e w1 ⟨rfl,hb1⟩;have hx:=ah.later (ah.new w #[.int .i64 0,.int .i64 0] 40) hb1;have HX:=zh hx;have HB1:=zh (Bt (show Below w.heap.size w (w.alloc (.cells #[.int .i64 0,.int .i64 0] 40)) from au) hb1);clear hx hb1
 by_cases ha:a2=0
 ·subst ha;go_wp2_with fail
  refine (H2.out _ HB1.out).mono ?_;rintro e w2 ⟨rfl,hb2⟩;replace HX:=zh (HX.out.later hb2);have HB2:=zh (Bt HB1.out hb2);clear hb2 HB1
  by_cases hb:b2=0
  ·subst hb;go_wp2_with fail
   refine (HO.out _).mono ?_;rintro e w3 ⟨rfl,hb3⟩;replace HX:=zh (HX.out.later hb3);have HB3:=zh (Bt HB2.out hb3);clear hb3 HB2;have hx:=HX.out;have cx:=hx.cell;have fx:=hx.free;have lx:=hx.lt;have hw:=HB3.out;cases hk:jF a1 b1
   all_goals
    go_wp2_with fail
    refine aK rfl rfl aH Tryz.underlying40 rfl zk ?_;exact ⟨by first|rfl|(rw [if_neg (fun h=>h rfl),if_neg (fun h=>h rfl),hk];rfl),au⟩
  ·have g:(b2 == 0)=false:=beq_eq_false_iff_ne.2 hb;have hx:=HX.out;have cx:=hx.cell;have fx:=hx.free;have lx:=hx.lt;have hw:=HB2.out;go_wp2_with fail
   refine aK rfl rfl aH Tryz.underlying40 rfl zk ?_;exact ⟨by first|rfl|(rw [if_neg (fun h=>h rfl),if_pos hb];rfl),au⟩
 ·have g:(a2 == 0)=false:=beq_eq_false_iff_ne.2 ha;have hx:=HX.out;have cx:=hx.cell;have fx:=hx.free;have lx:=hx.lt;have hw:=HB1.out;go_wp2_with fail
  refine aK rfl rfl aH Tryz.underlying40 rfl zk ?_;exact ⟨by first|rfl|(rw [if_pos ha];rfl),au⟩
theorem Au (s n:Nat) (hs:nC s=true) (hn:n≤10^18) (hk:nC (s+n^2)=true) (w:World) (ht:jw.Pow w) :
  Calls Tryz.prog 154 #[dP (s:Int),.int .i64 (n:Int)] w (fun e w'=>e= .returned (.tuple #[dP ((s+n^2:Nat):Int),.int .i64 0])∧Below w.heap.size w w'):=by
 have hn0:nC n=true:=zO.2 (Nat.lt_of_le_of_lt hn (by decide+kernel));have hn2:nC (n^2)=true:=uj hk zo
 have h63:(n:Int)≤9223372036854775807:=by
  have:(10:Nat)^18=1000000000000000000:=by decide
  omega
 have HO:=zh (fun W h=>CF (n:Int) zo h63 W h);have Uz:=zh (fun W h=>zu n 2 hn0 zo W h);have HA:=zh (fun W h=>Jv s (n^2) hs hn2 W h);rw [wF hn2] at Uz;rw [wF hk] at HA;have HP:=zh ht;clear ht h63 hn2 hn0 hs hn hk;generalize s+n^2=u at *;generalize n^2=n2 at *;unfold dP at *;generalize (⟨(Lib.itoa (n:Int)).toArray⟩:ByteArray)=tn at *;generalize (⟨(Lib.itoa (n2:Int)).toArray⟩:ByteArray)=tn2 at *;generalize (⟨(Lib.itoa (s:Int)).toArray⟩:ByteArray)=ts at *;generalize (⟨(Lib.itoa (u:Int)).toArray⟩:ByteArray)=tu at *;go_enter Tryz.func154,Tryz.ntmps154
 go_wp2_with fail
 refine (HO.out _ HP.out).mono ?_;rintro e w1 ⟨rfl,hb1⟩;go_wp2_with fail
 refine (Uz.out _ (HP.out.later hb1)).mono ?_;rintro e w2 ⟨rfl,hb2⟩;go_wp2_with fail
 refine (HA.out _ (HP.out.later (Bt hb1 hb2))).mono ?_;rintro e w3 ⟨rfl,hb3⟩;go_wp2_with fail
 go_ret2
 exact ⟨rfl,Bt hb1 (Bt hb2 hb3)⟩
theorem QY (s:Nat) (up:Bool) (hs:nC s=true) (w:World) (ht:jw.Pow w) (he:Er w) :
  Calls Tryz.prog 156 #[dP (s:Int),.bool up] w (fun e w'=>e= .returned (.tuple #[.int .i64 (Bz (iH 2 s) (up&& !(decide (iH 2 s^2=s)))).1,.int .i64 (Bz (iH 2 s) (up&& !(decide (iH 2 s^2=s)))).2])∧Below w.heap.size w w'):=by
 have HR:=zh (fun W h=>zI s 2 hs zo zo W h);have HI:=zh (fun W h=>yO (iH 2 s) (up&& !(decide (iH 2 s^2=s))) (uj hs (sF zo)) W h);have HP:=zh ht;have HE:=zh he;clear ht he hs;generalize decide (iH 2 s^2=s)=ex at *;obtain ⟨v,Ev⟩:∃ v,Bz (iH 2 s) (up&& !ex)=v:=⟨_,rfl⟩;rw [Ev] at HI ⊢;clear Ev;obtain ⟨v1,v2⟩:=v;simp only at HI ⊢;generalize iH 2 s=r at *;unfold dP at *;generalize (⟨(Lib.itoa (s:Int)).toArray⟩:ByteArray)=ts at *;generalize (⟨(Lib.itoa (r:Int)).toArray⟩:ByteArray)=tr at *;go_enter Tryz.func156,Tryz.ntmps156
 go_wp2_with fail
 refine (HR.out _ HP.out).mono ?_;rintro e w1 ⟨rfl,hb1⟩;cases up<;>cases ex
 all_goals
  go_wp2_with fail
  refine (HI.out _ (HE.out.later hb1)).mono ?_;rintro e w2 ⟨rfl,hb2⟩;go_wp2_with fail
  go_ret2
  exact ⟨rfl,Bt hb1 hb2⟩
theorem Xu {l:List Nat} {up:Bool}:Bz (iH 2 (uY l)) (up&& !(decide (iH 2 (uY l)^2=uY l)))=Br l up:=by
 show Bz (nlo l) (up&& !(decide (nlo l^2=uY l)))=Br l up
 by_cases h:nlo l≤10^18
 ·rw [an0 h];unfold Bz;rw [if_pos h]
 ·unfold Br Bz;rw [if_neg h,if_neg h]
end Go.Proofs.power
