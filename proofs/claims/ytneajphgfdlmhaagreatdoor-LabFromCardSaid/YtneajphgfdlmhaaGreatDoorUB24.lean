/- Lemmas for the proof. No condition. -/
import Derived.Test.YtneajphgfdlmhaaGreatDoorUB23
import Derived.Laws.EntriesVeiled
set_option linter.unusedVariables false
set_option linter.unusedSimpArgs false
set_option maxRecDepth 100000
set_option maxHeartbeats 16000000
open Go.Ending renaming returned → ah
open Go.IntKind renaming i64 → I
open Go.Value renaming agg → au, bool → ak, int → Z, pointer → aA, slice → aj, string → O, tuple → aD
open List renaming getD_eq_getElem?_getD → cK, getElem?_append_right → dY, replicate → bW, set_append_right → jw
open Nat renaming eq_zero_or_pos → aX, le_refl → aC, le_trans → ay, lt_or_ge → aR, mul_le_mul_left → aT, pow_add → gG, pow_le_pow_right → bH, pow_succ → cZ, zero_add → dJ
namespace Go.Proofs.whole
open Go Go.RowKit Go.SW Go.Num Go.Mem Go.Proofs
theorem UR (k d:Nat):(bW (k+1) 0).set k d=bW k 0++[d]:=by
 rw [List.replicate_succ'];rw [jw _ _ zi];simp
theorem Yh {w:World} {v:Value} {k d:Nat} (h:nY w v ((bW (k+1) 0).set k d)) (h0:0<d) (h1:d<1000000000):bZ w v (1000000000^k*d):=by
 rw [UR] at h
 have:=bZ.MV h (fun x hx=>by
  rcases List.mem_append.1 hx with hx|hx
  ·rw [List.eq_of_mem_replicate hx];omega
  ·simp at hx;omega) (fun j hj=>by
  have e:j=k:=by simpa using hj.symm
  subst e;rw [cK,dY zi];simp
  omega)
 rwa [jk,vN,List.length_replicate,dJ] at this
theorem sP (n:Nat) (hn:n≤100000) (w:World) :
  Calls Tryz.prog 312 #[Z I (n:Int)] w (fun e w'=>∃ v,e= ah v∧Below w.heap.size w w'∧bZ w' v (10^n)):=by
 obtain ⟨i0,hi,hz0,hz1,hz2⟩:=info_parts AJ;have W0:∀ z:Int,0≤z∧z≤1000000000→I.wrap z=z:=fun z h=>by unfold IntKind.wrap;simp [IntKind.bits,IntKind.signed];omega
 obtain ⟨k,hk⟩:∃ k,n / 9=k:=⟨_,rfl⟩;obtain ⟨r,hr⟩:∃ r,n%9=r:=⟨_,rfl⟩
 have e10:10^n=1000000000^k*10^r:=by
  rw [show (1000000000:Nat)=10^9 by decide,← Nat.pow_mul,← gG]
  congr 1
  omega
 rw [e10];have t1:(n:Int).tdiv 9=(k:Int):=by rw [Int.tdiv_eq_ediv_of_nonneg zo];omega
 have t2:(n:Int).tmod 9=(r:Int):=by rw [Int.tmod_eq_emod_of_nonneg zo];omega
 have u1:=W0 (k:Int) zo;have u2:=W0 ((k:Int)+1) zo;have u3:=W0 (r:Int) zo;have hr8:r≤8:=by omega
 have hk9:k≤100000:=by omega
 have HT:Hid (∀ i,i≤r→0<10^i∧10^i≤100000000):=zh fun i hi=>⟨Nat.pow_pos zo,ay (bH zo (show i≤8 by omega)) zd⟩;clear e10 hk hr W0;go_enter Tryz.func312,Tryz.ntmps312
 go_wp2_with (at_make;refine wpList_make_full _ rfl _ _ 255 rfl w.heap.size 61 i0 (Z .u32 0) 1 Tryz.underlying255 hi hz0 hz1 _ _ _ _ (k+1) rfl rfl zo zo (by rw [hz2];omega) (by unfold maxLen;omega) (aC _) ?_)
 intro w0 hown0 kZ;rw [rX] at hown0;have hb0:Below w.heap.size w w0:=(Below.refl _ _).grown kZ (aC _) (fun k h=>by cases h);have HO:=zh hown0;have HB:=zh hb0;clear hown0 kZ hb0;go_wp2_with fail
 go_loopw [4,11] (fun tv iv wr=>∃ i:Nat,iv= Z I (i:Int)∧i≤r∧tv= Z .u32 ((10^i:Nat):Int)∧wr=w0) (fun _ iv _=>r - (intOf iv).toNat)
 case atStart=>exact ⟨0,rfl,by omega,rfl,rfl⟩
 case round =>
  obtain ⟨i,rfl,hi,rfl,rfl⟩:=hrel;obtain ⟨h1,h2⟩:=HT.out i hi
  rcases aR i r with hlt|hge
  ·have h3:=(HT.out (i+1) zo).2;obtain ⟨b,hB⟩:∃ b,Hid (10^(i+1)=b):=⟨_,zh rfl⟩;rw [hB.out] at h3;have e:((10^i:Nat):Int)*10=(b:Int):=by rw [← hB.out,cZ];omega
   have he:IntKind.u32.wrap (((10^i:Nat):Int)*10)=(b:Int):=by rw [e];unfold IntKind.wrap;simp [IntKind.bits,IntKind.signed];omega
   clear e h3 h1 h2;generalize 10^i=a at *;go_wp2_with fail
   go_roundw
   case rel=>exact ⟨i+1,by go_num,by omega,by rw [hB.out],trivial⟩
   case measure=>exact zM
  ·obtain rfl:i=r:=by omega
   obtain ⟨d,hD⟩:∃ d,Hid (10^i=d):=⟨_,zh rfl⟩;rw [hD.out] at h1 h2 ⊢;have q1:wr.cell? ⟨w.heap.size,k,none⟩=some (.int .u32 0):=by rw [HO.out.cellAt k zo,oG zi];simp
   have q2:wr.frozen? ⟨w.heap.size,k,none⟩=false:=HO.out.frozenAt k
   have HS:Hid (bZ (wr.setCell ⟨w.heap.size,k,none⟩ (Z .u32 (d:Int))) (aj (some ⟨w.heap.size,0,none⟩) (k+1) (k+1)) (1000000000^k*d)):=zh (by
    have h3:=(HO.out.stored k (Z .u32 (d:Int))).1;rw [mJ] at h3;exact Yh (nY.iG h3) h1 zo)
   have hb:Below w.heap.size w (wr.setCell ⟨w.heap.size,k,none⟩ (Z .u32 (d:Int))):=HB.out.setCell (aC _) _;go_wp2_with fail
   go_ret
   exact ⟨_,rfl,hb,by rw [hD.out];exact HS.out⟩
end Go.Proofs.whole
namespace Go.Proofs.whole
open Go Go.RowKit Go.SW Go.Num Go.Mem Go.Proofs Go.Dec
theorem Mf {y s:Nat} (hy:sz 1000000000 y≤s):∀ i,sz 1000000000 (y^i)≤s*i+1
 | 0=>dH zo _ _ (by rw [Nat.mul_zero,Nat.pow_zero];decide)
 | i+1=>by
  rw [cZ];have h:=mR (B:=1000000000) zo (y^i) y;have:=Mf hy i;rw [Nat.mul_succ];omega
theorem af3 {l:Nat}:sz 1000000000 (10^l)≤l+1:=by
 refine dH zo _ _ ?_;have h1:10^l≤1000000000^l:=Nat.pow_le_pow_left zo l;have h2:1000000000^l<1000000000^(l+1):=Nat.pow_lt_pow_right zo zo;omega
theorem yu (x:Value) (a k:Nat) (w:World) (hx:bZ w x a) (hk:1≤k) (k12:k≤12) (hl:(Lib.decDigits a).length≤10000) (ha:sz 1000000000 a≤10000) (ht:jN.Pow w) :
  Calls Tryz.prog 278 #[x,Z I (k:Int)] w (fun e w'=>∃ v,e= ah v∧Below w.heap.size w w'∧bZ w' v (gP k a)):=by
 obtain ⟨pa,la,ca,rfl⟩:=hx.slice
 rcases aX a with rfl|ha0
 ·have hr:gP k 0=0:=Nat.le_antisymm (J6 hk (by rw [dJ,Nat.one_pow];omega)) (Nat.zero_le _);rw [hr];have HX:=zh hx;clear hx hl ha ht hr;go_enter Tryz.func278,Tryz.ntmps278
  go_wp2_with fail
  refine (iU _ 0 _ HX.out).mono ?_;rintro e w1 ⟨rfl,rfl⟩;go_wp2_with fail
  go_ret
  exact ⟨_,rfl,Below.refl _ _,bZ.zero _⟩
 ·have W0:∀ z:Int,0≤z∧z≤1000000000→I.wrap z=z:=fun z h=>by unfold IntKind.wrap;simp [IntKind.bits,IntKind.signed];omega
  have d0:decide (a=0)=false:=by simp;omega
  have hs:=MW (k:=k) (m:=a) hk (DW a);obtain ⟨l,El⟩:∃ l,Hid ((Lib.decDigits a).length=l):=⟨_,zh rfl⟩;have HLEN:=zh (fun W (hW:Below w.heap.size w W)=>nu _ a W (hx.later hW) (ay ha zo) (ht.later hW));rw [El.out] at hs hl HLEN;obtain ⟨j,Ej⟩:∃ j,l / k=j:=⟨_,rfl⟩;have hjl:j≤l:=by rw [← Ej];exact Nat.div_le_self _ _
  have t1:(l:Int).tdiv (k:Int)=(j:Int):=by rw [Int.tdiv_eq_ediv_of_nonneg zo,← Ej];rfl
  rw [Ej] at hs;have kz:¬ k=0:=by omega
  have kz2:(k:Int)≠0:=by omega
  have kz3:((k:Int) == 0)=false:=by simp;omega
  have u1:=W0 (j:Int) zo;have u2:=W0 ((j:Int)+1) zo;obtain ⟨m,hm⟩:∃ m,Hid (k=m+1):=⟨k - 1,zh zo⟩;have e1:(k:Int) - 1=(m:Int):=by have:=hm.out;omega
  have aX3:m≤11:=by have:=hm.out;omega
  have u3:=W0 (m:Int) zo;have u4:IntKind.u64.wrap (m:Int)=(m:Int):=by unfold IntKind.wrap;simp [IntKind.bits,IntKind.signed];omega
  have u5:IntKind.u32.wrap (k:Int)=(k:Int):=by unfold IntKind.wrap;simp [IntKind.bits,IntKind.signed];omega
  have aO5:=zh (fun W=>sP (j+1) zo W);have HX:=zh hx;have HA:=zh ha;have HS:=zh hs;have HA0:=zh ha0;have HRP:Hid (1≤gP k a):=zh (yE hk (by rw [Nat.one_pow];exact ha0));clear hx ha hs ht W0 Ej;go_enter Tryz.func278,Tryz.ntmps278
  go_wp2_with fail
  refine (iU _ a _ HX.out).mono ?_;rintro e w1 ⟨rfl,rfl⟩;rw [d0];go_wp2_with fail
  refine (HLEN.out _ (Below.refl _ _)).mono ?_;rintro e w2 ⟨rfl,hb2⟩;go_wp2_with fail
  refine (aO5.out _).mono ?_;rintro e w3 ⟨v,rfl,hb3,hv⟩;obtain ⟨pv,lv,cv,rfl⟩:=hv.slice;have HV:=zh hv;have HB:=zh (Bt hb2 hb3);clear hv hb2 hb3;go_wp2_with fail
  go_loopw [5] (fun xv wr=>∃ y:Nat,Hid (bZ wr xv y)∧Hid (gP k a≤y∧y≤10^(j+1))∧Below w.heap.size w wr) (fun xv wr=>Db wr xv)
  case atStart=>exact ⟨_,HV,zh ⟨HS.out,aC _⟩,HB.out⟩
  case round =>
   obtain ⟨y,HY,HR,hb⟩:=hrel;obtain ⟨py,ly,cy,rfl⟩:=HY.out.slice;have hy0:0<y:=by have:=HR.out.1;have:=HRP.out;omega
   have hys:sz 1000000000 y≤10002:=ay (fB zo HR.out.2) (ay af3 zo);have Ow:=zh (JI _ y m wr HY.out zo (fun i hi=>ay (Mf hys i) (by have:=aT 10002 (show i≤12 by omega);omega)) (ay hys zo));have HYS:=zh hys;have HY0:=zh hy0;have HBr:=zh hb;clear hb hys hy0;go_wp2_with fail
   refine Ow.out.mono ?_;rintro e w4 ⟨v4,rfl,hb4,hv4⟩;obtain ⟨p4,l4,c4,rfl⟩:=hv4.slice;have HV4:=zh hv4;have HB4:=zh hb4;clear hv4 hb4 Ow;have HD:=zh (iI _ _ a (y^m) _ (HX.out.later (Bt HBr.out HB4.out)) HV4.out (Nat.pow_pos HY0.out) (ay HA.out zo));go_wp2_with fail
   refine HD.out.mono ?_;rintro e w5 ⟨v5,v6,rfl,hb5,hv5, -⟩;obtain ⟨p5,l5,c5,rfl⟩:=hv5.slice;have HV5:=zh hv5;have HB5:=zh (Bt HB4.out hb5);clear hv5 hb5 HD HV4 HB4;go_wp2_with fail
   refine (nT m _ zo).mono ?_;rintro e w6 ⟨v7,rfl,hb6,hv6⟩;obtain ⟨p6,l6,c6,rfl⟩:=hv6.slice;have sm:sz 1000000000 m≤2:=dH zo 2 _ zo;have HM:=zh (kE _ _ y m _ (HY.out.later (Bt HB5.out hb6)) hv6 (ay HYS.out zo) (ay sm zo));have aC6:=zh (HV5.out.later hb6);have XL:=zh (Bt HB5.out hb6);clear hv6 hb6 HV5 HB5;go_wp2_with fail
   refine HM.out.mono ?_;rintro e w7 ⟨v8,rfl,kR,hv7⟩;obtain ⟨p7,l7,c7,rfl⟩:=hv7.slice
   have s7:sz 1000000000 (y*m)≤10100:=by
    have h1:=mR (B:=1000000000) zo y m;have h2:=HYS.out;omega
   have s5:sz 1000000000 (a / y^m)≤10000:=ay (fB zo (Nat.div_le_self _ _)) HA.out;have HP:=zh (BF _ _ (y*m) (a / y^m) _ hv7 (aC6.out.later kR) (ay s7 zo) (ay s5 zo))
   have aC9:Hid (sz 1000000000 (y*m+a / y^m)≤1099511627776):=zh (by
    have:=wY (B:=1000000000) zo (y*m) (a / y^m);omega)
   have HB7:=zh (Bt XL.out kR);clear hv7 kR HM aC6 XL s7 s5;go_wp2_with fail
   refine HP.out.mono ?_;rintro e w8 ⟨v9,rfl,Ji,tL⟩;obtain ⟨p8,l8,c8,rfl⟩:=tL.slice;have HSH:=zh (yh _ _ k _ tL aC9.out zo zo);have HB8:=zh (Bt HB7.out Ji);clear tL Ji HP aC9 HB7;have en:(y*m+a / y^m) / k=MX k a y:=by unfold MX;rw [show k - 1=m by have:=hm.out;omega]
   rw [en] at HSH;obtain ⟨z,Ez⟩:∃ z,Hid (MX k a y=z):=⟨_,zh rfl⟩;rw [Ez.out] at HSH;clear en;go_wp2_with fail
   refine HSH.out.mono ?_;rintro e w9 ⟨v10,rfl,uD,hv9⟩;obtain ⟨p9,l9,c9,rfl⟩:=hv9.slice;have HV9:=zh hv9;have HB9:=zh (Bt HB8.out uD);have HCM:=zh (ku _ _ z y _ hv9 (HY.out.later (Bt HB8.out uD)));clear hv9 uD HSH HB8;go_wp2_with fail
   refine HCM.out.mono ?_;rintro e w10 ⟨rfl,jW⟩;have aq2:=zh (Bt HB9.out jW);have aC8:=zh (HV9.out.later jW);have HYZ:=zh (HY.out.later aq2.out);clear HCM HB9 HV9 jW
   rcases aR z y with hlt|hge
   ·rw [qZ hlt];have hz:=Bt HBr.out aq2.out;go_wp2_with fail
    go_roundw
    case rel=>exact ⟨z,aC8,zh ⟨by rw [← Ez.out];exact YR hk HY0.out,by have:=HR.out.2;omega⟩,hz⟩
    case measure=>rw [uS aC8.out,uS HY.out];exact hlt
   ·have g:decide ((0:Int)≤xu z y)=true:=by
     rcases Nat.eq_or_lt_of_le hge with h|h
     ·rw [h,sW];rfl
     ·rw [qo h];rfl
    have hw:=Bt HBr.out aq2.out;have HE:Hid (y=gP k a):=zh (VF hk HY0.out HR.out.1 (by rw [Ez.out];exact hge));go_wp2_with fail
    go_ret
    exact ⟨_,rfl,hw,by rw [← HE.out];exact HYZ.out⟩
end Go.Proofs.whole
namespace Go.Proofs.whole
open Go Go.RowKit Go.SW Go.Num Go.Mem Go.Proofs Go.Dec Go.gB
def Bz (z:Int):Value:=if kS z.natAbs=true then aD #[dW z,Z I 0] else aD #[O ⟨#[]⟩,Z I 6]
theorem mI (v:Value) (z:Int) (w:World) (h:fK w v z) (kz:sz 1000000000 z.natAbs≤1099511627776) (ht:jN.Pow w) :
  Calls Tryz.prog 255 #[v] w (fun e w'=>e= ah (Bz z)∧Below w.heap.size w w'):=by
 obtain ⟨pa,l,ca,rfl,hm⟩:=h
 have hlen:((1+(Lib.decDigits z.natAbs).length:Nat):Int)≤9223372036854775807:=by
  have h1:=vD (dw (B:=1000000000) zo z.natAbs);rw [bY zo] at h1;unfold sz at kz;omega
 have ac6:¬ 9223372036854775807<1+(Lib.decDigits z.natAbs).length:=by omega
 have LQ:=zh (fun W (hW:Below w.heap.size w W)=>nu _ z.natAbs W (hm.later hW) kz (ht.later hW));have HDI:=zh (fun W (hW:Below w.heap.size w W)=>sw _ z.natAbs W (hm.later hW) kz (ht.later hW));unfold Bz;clear hm kz ht hlen
 rcases aR 600 (Lib.decDigits z.natAbs).length with hb|hb
 ·rw [if_neg (by rw [MR hb];decide)];have g:decide ((600:Int)<((Lib.decDigits z.natAbs).length:Int))=true:=by simp;omega
  clear hb ac6;generalize (Lib.decDigits z.natAbs).length=n at *;generalize decide (z<0)=b at *;go_enter Tryz.func255,Tryz.ntmps255
  go_wp2_with fail
  refine (LQ.out _ aJ).mono ?_;rintro e w1 ⟨rfl,hb1⟩;have hw:=Bt (show Below w.heap.size w (w.alloc (.cells #[aj pa l ca,ak b] 257)) from aJ) hb1;go_wp2_with fail
  go_ret2
  exact ⟨rfl,hw⟩
 ·rw [if_pos (fZ.2 hb)];have g:decide ((600:Int)<((Lib.decDigits z.natAbs).length:Int))=false:=by simp;omega
  by_cases hz:z<0
  ·have e:dW z= O ⟨(45::Lib.decDigits z.natAbs).toArray⟩:=by unfold dW Lib.itoa;rw [if_pos hz]
   rw [e,decide_eq_true hz];clear e hz hb;go_enter Tryz.func255,Tryz.ntmps255
   go_wp2_with fail
   refine (LQ.out _ aJ).mono ?_;rintro e w1 ⟨rfl,hb1⟩;have hx:=aB.later (aB.new w #[aj pa l ca,ak true] 257) hb1;have cx:=hx.cell;have lx:=hx.lt;have HW:=zh (Bt (show Below w.heap.size w (w.alloc (.cells #[aj pa l ca,ak true] 257)) from aJ) hb1);go_wp2_with fail
   refine (HDI.out _ HW.out).mono ?_;rintro e w2 ⟨rfl,hb2⟩;have hw:=Bt HW.out hb2;go_wp2_with fail
   go_ret2
   exact ⟨rfl,hw⟩
  ·have e:dW z= O ⟨(Lib.decDigits z.natAbs).toArray⟩:=by unfold dW Lib.itoa;rw [if_neg hz,show z.toNat=z.natAbs by omega]
   rw [e,decide_eq_false hz];clear e hz hb;go_enter Tryz.func255,Tryz.ntmps255
   go_wp2_with fail
   refine (LQ.out _ aJ).mono ?_;rintro e w1 ⟨rfl,hb1⟩;have hx:=aB.later (aB.new w #[aj pa l ca,ak false] 257) hb1;have cx:=hx.cell;have lx:=hx.lt;have HW:=zh (Bt (show Below w.heap.size w (w.alloc (.cells #[aj pa l ca,ak false] 257)) from aJ) hb1);go_wp2_with fail
   refine (HDI.out _ HW.out).mono ?_;rintro e w2 ⟨rfl,hb2⟩;have hw:=Bt HW.out hb2;go_wp2_with fail
   go_ret2
   exact ⟨rfl,hw⟩
theorem ru {a b:Nat} (h:kS b=true) (hab:a≤b):kS a=true:=by
 unfold kS at *;have:=of_decide_eq_true h;exact decide_eq_true zo
theorem qB {k a:Nat} (hk:1≤k):gP k a≤a:=by
 have h:=(om hk a).1
 rcases aX (gP k a) with h0|h0
 ·omega
 ·have:=Nat.le_self_pow (by omega:k≠0) (gP k a);omega
theorem uH {a:Nat} (h:kS a=true):Bz (a:Int)= aD #[dW (a:Int),Z I 0]:=by
 unfold Bz;rw [Int.natAbs_natCast,if_pos h]
theorem I4 (a k:Nat) (ha:kS a=true) (hk:1≤k) (k12:k≤12) (w:World) (ht:jN.Pow w) :
  Calls Tryz.prog 232 #[dW (a:Int),Z I (k:Int)] w (fun e w'=>e= ah (aD #[dW (gP k a:Nat),Z I 0])∧Below w.heap.size w w'):=by
 have hd:(Lib.decDigits a).length≤600:=fZ.1 ha;have hs:=kY ha;have hro:kS (gP k a)=true:=ru ha (qB hk);have HR:=zh (fun W=>yx (a:Int) (by rw [Int.natAbs_natCast];exact hd) W);have HRT:=zh (fun x W hx hp=>yu x a k W hx hk k12 zo zo hp);have LP:=zh (fun v W h hp=>mI v (gP k a:Nat) W h (by rw [Int.natAbs_natCast];exact ay (kY hro) zo) hp);rw [uH hro] at LP;have HP:=zh ht;have g0:decide ((a:Int)<0)=false:=by simp
 have g1:decide ((k:Int)<1)=false:=by simp;omega
 have g2:decide ((12:Int)<(k:Int))=false:=by simp;omega
 clear hd hs hro ha ht;obtain ⟨r,Er⟩:∃ r,gP k a=r:=⟨_,rfl⟩;rw [Er] at HRT LP ⊢;clear Er;unfold dW at HR LP ⊢;generalize (⟨(Lib.itoa (a:Int)).toArray⟩:ByteArray)=ta at *;generalize (⟨(Lib.itoa (r:Int)).toArray⟩:ByteArray)=tr at *;go_enter Tryz.func232,Tryz.ntmps232
 go_wp2_with fail
 refine (HR.out _).mono ?_;rintro e w1 ⟨v,rfl,hb1,hv⟩;obtain ⟨pa,l,ca,rfl,hm⟩:=hv;rw [Int.natAbs_natCast] at hm;rw [g0];have HM:=zh hm;have HB1:=zh hb1;clear hm hb1;go_wp2_with fail
 have hb2:Below w1.heap.size w1 (w1.alloc (.cells #[aj pa l ca,ak false] 257)):=aJ;refine (HRT.out _ _ (HM.out.later hb2) (HP.out.later (Bt HB1.out hb2))).mono ?_;rintro e w2 ⟨v,rfl,hb3,hv⟩;obtain ⟨p2,l2,c2,rfl⟩:=hv.slice;have HM2:=zh hv;have HB2:=zh (Bt HB1.out (Bt hb2 hb3));clear hv hb2 hb3;go_wp2_with fail
 refine (gD _ r false _ HM2.out).mono ?_;rintro e w3 ⟨v,rfl,hb4,hv⟩;obtain ⟨p3,l3,c3,rfl,Zc⟩:=id hv;have HI:=zh (hv.cast (show jh r false=(r:Int) from rfl));have HB3:=zh (Bt HB2.out hb4);have g3:decide (jh r false<0)=false:=by unfold jh;simp
 rw [g3] at HI ⊢;clear hv Zc hb4;go_wp2_with fail
 refine (LP.out _ _ HI.out (HP.out.later HB3.out)).mono ?_;rintro e w4 ⟨rfl,hb5⟩;have hw:=Bt HB3.out hb5;go_wp2_with fail
 go_ret2
 exact ⟨rfl,hw⟩
theorem xR (a n:Nat) (ha:kS a=true) (n40:n≤40) (w:World) (ht:jN.Pow w) :
  Calls Tryz.prog 200 #[dW (a:Int),Z I (n:Int)] w (fun e w'=>e= ah (Bz (a^n:Nat))∧Below w.heap.size w w'):=by
 have hd:(Lib.decDigits a).length≤600:=fZ.1 ha;have hs:=kY ha;have hp:∀ i,i≤n→sz 1000000000 (a^i)≤10000:=fun i hi=>ay (Mf hs i) (by have:=aT 67 (show i≤40 by omega);omega);have HR:=zh (fun W=>yx (a:Int) (by rw [Int.natAbs_natCast];exact hd) W);have HRT:=zh (fun x W hx=>JI x a n W hx zo (fun i hi=>ay (hp i hi) zo) zo);have LP:=zh (fun v W h hq=>mI v (a^n:Nat) W h (by rw [Int.natAbs_natCast];exact ay (hp n (aC _)) zo) hq);have HP:=zh ht;have g0:decide ((a:Int)<0)=false:=by simp
 have g1:decide ((n:Int)<0)=false:=by simp
 have g2:decide ((40:Int)<(n:Int))=false:=by simp;omega
 clear hd hs hp ha ht;obtain ⟨r,Er⟩:∃ r,a^n=r:=⟨_,rfl⟩;rw [Er] at HRT LP ⊢;clear Er
 obtain ⟨tr,kr,Ew⟩:∃ tr kr,Bz (r:Int)= aD #[O tr,Z I kr]:=by
  unfold Bz dW;split
  ·exact ⟨_,_,rfl⟩
  ·exact ⟨_,_,rfl⟩
 rw [Ew] at LP ⊢;clear Ew;unfold dW at HR ⊢;generalize (⟨(Lib.itoa (a:Int)).toArray⟩:ByteArray)=ta at *;go_enter Tryz.func200,Tryz.ntmps200
 go_wp2_with fail
 refine (HR.out _).mono ?_;rintro e w1 ⟨v,rfl,hb1,hv⟩;obtain ⟨pa,l,ca,rfl,hm⟩:=hv;rw [Int.natAbs_natCast] at hm;rw [g0];have HM:=zh hm;have HB1:=zh hb1;clear hm hb1;go_wp2_with fail
 obtain ⟨wx,EW,hz,X⟩:=zD w1 #[aj pa l ca,ak false] 257;rw [EW];clear EW;replace HM:=zh (HM.out.later hz);have HB2:=zh (Bt HB1.out hz);clear hz HB1;obtain ⟨bx,eb⟩:∃ y,w1.heap.size=y:=⟨_,rfl⟩;rw [eb] at X ⊢;have cX:=X.out.cell;have lX:=X.out.lt;refine aO [(.pure,0),(.read,1),(.pure,2),(.pure,4),(.read,5),(.ext,3),(.pure,6),(.pure,7),(.pure,8),(.pure,9),(.pure,10),(.ext,11),(.ext,12),(.pure,13),(.pure,14),(.fin,15),(.fin,16)] zk zk zR zP ?_;refine zW ?_;refine aU rfl rfl (fun we hbe J hJ=>?_);go_simp;have h1:Below wx.heap.size wx we:=aJ;refine (HRT.out _ _ (HM.out.later h1)).mono ?_;rintro e w2 ⟨v,rfl,hb2,hv⟩;obtain ⟨p2,l2,c2,rfl⟩:=hv.slice;refine hJ _ _ hb2 ?_;clear hJ J;have HM2:=zh hv;have h2:=Bt h1 hb2;clear hv h1 hbe hb2
 repeat (first|(refine ql rfl rfl (fun J hJ=>?_);go_simp;refine hJ _ ?_;clear hJ J)|(refine vM rfl rfl rfl (fun J hJ=>?_);go_simp;refine hJ _ ?_;clear hJ J))
 refine aU rfl rfl (fun we hbe J hJ=>?_);go_simp;have h3:Below w2.heap.size w2 we:=aJ;refine (gD _ r false _ (HM2.out.later h3)).mono ?_;rintro e w3 ⟨v,rfl,hb3,hv⟩;obtain ⟨p3,l3,c3,rfl,Zc⟩:=id hv;have HI:=zh (hv.cast (show jh r false=(r:Int) from rfl));have g3:decide (jh r false<0)=false:=by unfold jh;simp
 rw [g3] at HI ⊢;refine hJ _ _ hb3 ?_;clear hJ J;have h4:=Bt h2 (Bt h3 hb3);clear hv Zc hb3 h3 h2 hbe
 repeat (first|(refine ql rfl rfl (fun J hJ=>?_);go_simp;refine hJ _ ?_;clear hJ J)|(refine vM rfl rfl rfl (fun J hJ=>?_);go_simp;refine hJ _ ?_;clear hJ J))
 refine aU rfl rfl (fun we hbe J hJ=>?_);go_simp;have h5:Below w3.heap.size w3 we:=aJ;refine (LP.out _ _ (HI.out.later h5) (HP.out.later (Bt HB2.out (Bt h4 h5)))).mono ?_;rintro e w4 ⟨rfl,hb4⟩;refine hJ _ _ hb4 ?_;clear hJ J;have h6:=Bt h4 (Bt h5 hb4);clear hb4 h5 h4 hbe
 repeat (first|(refine ql rfl rfl (fun J hJ=>?_);go_simp;refine hJ _ ?_;clear hJ J)|(refine vM rfl rfl rfl (fun J hJ=>?_);go_simp;refine hJ _ ?_;clear hJ J))
 refine dD [_,_] rfl (fun wf hbf=>?_);have hw:Below w.heap.size w wf:=Bt HB2.out (Bt h6 aJ);go_wp2_with fail
 go_ret2
 exact ⟨rfl,hw⟩
end Go.Proofs.whole
namespace Go.Mem
open Go Go.RowKit
section
variable {P:Program} {fn:Func} {R:Ending→World→Prop} {w:World} {tmps:Array Value}
theorem JD {p q u:Tmp} {ty Bf:TypeId} (h:fn.results=#[.cell p ty,.cell q Bf,.tmp u]) :
  (results fn tmps).run P w=((asAddr (tmps.getD p undef)).run P w).andThen fun a w₁=>((loadVar ty a).run P w₁).andThen fun v w₂=>((asAddr (tmps.getD q undef)).run P w₂).andThen fun a' w₃=>((loadVar Bf a').run P w₃).andThen fun v' w₄=>.ok (aD #[v,v',tmps.getD u undef]) w₄:=by
 simp only [results,h];simp [Sem.run_bind,Result.andThen]
theorem Yr {p q u:Tmp} {ty Bf t t2:TypeId} {g g2:Nat} {cs cs2:Array Value} {d d2:TypeDesc} (h:fn.results=#[.cell p ty,.cell q Bf,.tmp u])
  (hp:tmps.getD p undef= aA (some ⟨g,0,none⟩)) (hg:aB w g cs t) (hu:P.underlying ty=some d) (hd:(match d with| .struct _| .array _ _=>true| _=>false)=true) (hi:(P.info? ty).map (·.size)=some cs.size)
  (hp2:tmps.getD q undef= aA (some ⟨g2,0,none⟩)) (hg2:aB w g2 cs2 t2) (hu2:P.underlying Bf=some d2) (hd2:(match d2 with| .struct _| .array _ _=>true| _=>false)=true) (hi2:(P.info? Bf).map (·.size)=some cs2.size)
  (k:R (ah (aD #[au cs,au cs2,tmps.getD u undef])) w):bodyPost P fn R .ret { tmps:=tmps,defers:=[] } w:=by
 have e:(results fn tmps).run P w= .ok (aD #[au cs,au cs2,tmps.getD u undef]) w:=by
  rw [JD h,hp];simp only [asAddr,Sem.run_pure,Result.andThen_ok];rw [run_loadVar_row w g t ty cs (0,0) d hg hu hd hi];simp only [Result.andThen_ok];rw [hp2];simp only [asAddr,Sem.run_pure,Result.andThen_ok];rw [run_loadVar_row w g2 t2 Bf cs2 (0,0) d2 hg2 hu2 hd2 hi2];rfl
 refine bodyPost_ret e rfl k
end
end Go.Mem
namespace Go.Proofs.whole
open Go Go.RowKit Go.SW Go.Num Go.Mem Go.Proofs Go.Dec Go.gB
theorem Ii (a b:Nat) (ha:(Lib.decDigits a).length≤600) (hb:(Lib.decDigits b).length≤600) (w:World) :
  Calls Tryz.prog 307 #[dW (a:Int),dW (b:Int)] w (fun e w'=>∃ p1 l1 c1 p2 l2 c2,e= ah (aD #[au #[aj p1 l1 c1,ak false],au #[aj p2 l2 c2,ak false],Z I 0])∧Below w.heap.size w w'∧bZ w' (aj p1 l1 c1) a∧bZ w' (aj p2 l2 c2) b):=by
 have RA:Hid (∀ W,Calls Tryz.prog 254 #[dW (a:Int)] W (fun e w'=>∃ p l c,e= ah (aD #[au #[aj p l c,ak false],ak true])∧Below W.heap.size W w'∧bZ w' (aj p l c) a)):=zh fun W=>(yx (a:Int) (by rw [Int.natAbs_natCast];exact ha) W).mono fun e w' ⟨v,h1,h2,p,l,c,h3,h4⟩=>by
  rw [Int.natAbs_natCast] at h4;have g0:decide ((a:Int)<0)=false:=by simp
  rw [g0] at h3;exact ⟨p,l,c,by rw [h1,h3],h2,h4⟩
 have RB:Hid (∀ W,Calls Tryz.prog 254 #[dW (b:Int)] W (fun e w'=>∃ p l c,e= ah (aD #[au #[aj p l c,ak false],ak true])∧Below W.heap.size W w'∧bZ w' (aj p l c) b)):=zh fun W=>(yx (b:Int) (by rw [Int.natAbs_natCast];exact hb) W).mono fun e w' ⟨v,h1,h2,p,l,c,h3,h4⟩=>by
  rw [Int.natAbs_natCast] at h4;have g0:decide ((b:Int)<0)=false:=by simp
  rw [g0] at h3;exact ⟨p,l,c,by rw [h1,h3],h2,h4⟩
 clear ha hb;unfold dW at *;generalize (⟨(Lib.itoa (a:Int)).toArray⟩:ByteArray)=ta at *;generalize (⟨(Lib.itoa (b:Int)).toArray⟩:ByteArray)=tb at *;go_enter Tryz.func307,Tryz.ntmps307
 go_wp2_with fail
 obtain ⟨oC,EW,hz,X1,X2⟩:=Lf w #[aj none 0 0,ak false] 257 #[aj none 0 0,ak false] 257;rw [EW];have hk2:=Bt (Below.refl _ _) hz;clear EW hz;refine (RA.out _).mono ?_;rintro e pG ⟨p1,l1,c1,rfl,hb3,hm⟩;replace X1:=X1.bl hb3;replace X2:=X2.bl hb3;have hk5:=Bt hk2 hb3;clear hk2;have NX:=zh hm;clear hb3 hm;obtain ⟨nK,nI,oq⟩:=X1.clf;go_wp2_with fail
 clear nK nI oq;have hz:Below w.heap.size w ((pG.setCell ⟨w.heap.size,0,none⟩ (aj p1 l1 c1)).setCell ⟨w.heap.size,1,none⟩ (ak false)):=aJ;obtain ⟨wq6,EW⟩:∃ y,((pG.setCell ⟨w.heap.size,0,none⟩ (aj p1 l1 c1)).setCell ⟨w.heap.size,1,none⟩ (ak false))=y:=⟨_,rfl⟩;have tX1:=((X1.out.set 0 (aj p1 l1 c1)).set 1 (ak false));have tX2:=((X2.out.setOther (a:=⟨w.heap.size,0,none⟩) (aj p1 l1 c1) (by first|assumption|(simp;done)|(simp;omega))).setOther (a:=⟨w.heap.size,1,none⟩) (ak false) (by first|assumption|(simp;done)|(simp;omega)));have tNX:=((NX.out.setOther X1.out zd 0 (aj p1 l1 c1)).setOther (X1.out.set 0 (aj p1 l1 c1)) zd 1 (ak false));rw [EW] at tX1;replace X1:Hid (aB wq6 (w.heap.size) #[aj p1 l1 c1,ak false] 257):=zh tX1;clear tX1;rw [EW] at tX2;replace X2:Hid (aB wq6 (w.heap.size+1) #[aj none 0 0,ak false] 257):=zh tX2;clear tX2
 rw [EW] at tNX;replace NX:=zh tNX;clear tNX;rw [EW] at hz ⊢;clear EW;clear hk5;have hk6:=hz;clear hz;refine (RB.out _).mono ?_;rintro e wG ⟨p2,l2,c2,rfl,kR,hm⟩;replace X1:=X1.bl kR;replace X2:=X2.bl kR;replace NX:=zh (NX.out.later kR);have hk9:=Bt hk6 kR;clear hk6;have NY:=zh hm;clear kR hm;obtain ⟨uE,uz,xW⟩:=X2.clf;have HK:=zh hk9;obtain ⟨wl,Ewl⟩:∃ y,y=wG:=⟨_,rfl⟩;subst Ewl;have c1':=X1.out.cell;have l1':=X1.out.lt;have f1':=X1.out.free;have c2':=X2.out.cell;have l2':=X2.out.lt;have f2':=X2.out.free;go_wp2_with fail
 go_region
 go_wp2_with fail
 have hw:=HK.out;have hx1:=X1.out;have hx2:=X2.out;refine Yr rfl rfl bI Tryz.underlying257 rfl zk rfl bI Tryz.underlying257 rfl zk ?_;exact ⟨_,_,_,_,_,_,rfl,aJ,aY,aY⟩
end Go.Proofs.whole
namespace Go.Proofs.whole
open Go Go.RowKit Go.SW Go.Num Go.Mem Go.Proofs Go.Dec
theorem xC (v u:Value) (z y:Int) (w:World) (h:fK w v z) (h2:fK w u y) (kz:sz 1000000000 z.natAbs≤549755813888) (ky:sz 1000000000 y.natAbs≤549755813888) :
  Calls Tryz.prog 310 #[v,u] w (fun e w'=>∃ v,e= ah v∧Below w.heap.size w w'∧fK w' v (z*y)):=by
 obtain ⟨JO,lH,K7,rfl,H⟩:=h;replace H:=zh H;obtain ⟨aV6,lH2,ba4,rfl,H2⟩:=h2;replace H2:=zh H2;have KZ:=zh kz;have KY:=zh ky;clear kz ky;go_enter Tryz.func310,Tryz.ntmps310
 go_wp2_with fail
 refine aO [(.pure,0),(.read,1),(.pure,2),(.read,3),(.pure,5),(.read,6),(.pure,7),(.read,8),(.pure,9),(.ext,4),(.ext,10),(.fin,11)] zk zk zR zP ?_;refine zV ?_;refine aU rfl rfl (fun w1 hb1 J hJ=>?_);go_simp;have BR:=aB.later (aB.drew (aB.at2 _ _ _ _ _)) hb1;have dV:=BR.cell;have dU:=BR.free;refine (kE _ _ z.natAbs y.natAbs _ aY aY (ay KZ.out zo) (ay KY.out zo)).mono ?_;rintro e v1 ⟨v,rfl,hc1,hv⟩;obtain ⟨ag6,lHS,an3,rfl⟩:=hv.slice;have HS:=zh hv;clear hv;replace BR:=aB.later (BR) hc1;replace dV:=BR.cell;replace dU:=BR.free;refine hJ _ _ hc1 ?_;clear hJ J;refine aU rfl rfl (fun w2 hb2 J hJ=>?_);go_simp;replace BR:=aB.later (BR) hb2;replace dV:=BR.cell;replace dU:=BR.free;refine (gD _ (z.natAbs*y.natAbs) _ _ aY).mono ?_;rintro e v2 ⟨v,rfl,hc2,hv⟩;obtain ⟨ag5,lHT,an2,rfl,HT⟩:=hv;replace HT:=zh HT
 replace BR:=aB.later (BR) hc2;replace dV:=BR.cell;replace dU:=BR.free;refine hJ _ _ hc2 ?_;clear hJ J;refine dD [_] rfl (fun w5 hb5=>?_);replace BR:=aB.later (BR) hb5;replace dV:=BR.cell;replace dU:=BR.free;go_wp2_with fail
 refine ig rfl rfl bI Tryz.underlying257 rfl zk ?_;exact ⟨_,rfl,aJ,(fK.gV aY).cast (yj z y)⟩
end Go.Proofs.whole
namespace Go.Proofs.whole
open Go Go.RowKit Go.SW Go.Num Go.Mem Go.Proofs Go.Dec Go.gB
theorem Fz (a b:Nat) (ha:kS a=true) (hb:kS b=true) (w:World) (ht:jN.Pow w) :
  Calls Tryz.prog 277 #[Z I 2,dW (a:Int),dW (b:Int)] w (fun e w'=>e= ah (Bz (a*b:Nat))∧Below w.heap.size w w'):=by
 have sa:=kY ha;have sb:=kY hb
 have sr:sz 1000000000 (a*b)≤1000:=by
  have h1:=mR (B:=1000000000) zo a b;have h2:=wY (B:=1000000000) zo a b;omega
 have Ui:=zh (fun W=>Ii a b (fZ.1 ha) (fZ.1 hb) W);have HOP:=zh (fun v u W hv hu=>xC v u (a:Int) (b:Int) W hv hu (by rw [Int.natAbs_natCast];omega) (by rw [Int.natAbs_natCast];omega));have LP:=zh (fun v W h hq=>mI v (a*b:Nat) W h (by rw [Int.natAbs_natCast];omega) hq);have HP:=zh ht;clear sa sb sr ha hb ht;have e:(a:Int)*(b:Int)=((a*b:Nat):Int):=by simp
 rw [e] at HOP;have g0:decide ((a:Int)<0)=false:=by simp
 have g1:decide ((b:Int)<0)=false:=by simp
 have IA:Hid (∀ W p l c,bZ W (aj p l c) a→fK W (au #[aj p l c,ak false]) (a:Int)):=zh fun W p l c h=>⟨p,l,c,by rw [g0],by rw [Int.natAbs_natCast];exact h⟩;have IB:Hid (∀ W p l c,bZ W (aj p l c) b→fK W (au #[aj p l c,ak false]) (b:Int)):=zh fun W p l c h=>⟨p,l,c,by rw [g1],by rw [Int.natAbs_natCast];exact h⟩;clear e g0 g1;obtain ⟨r,Er⟩:∃ r,a*b=r:=⟨_,rfl⟩;rw [Er] at HOP LP ⊢;clear Er
 obtain ⟨tr,kr,Ew⟩:∃ tr kr,Bz (r:Int)= aD #[O tr,Z I kr]:=by
  unfold Bz dW;split
  ·exact ⟨_,_,rfl⟩
  ·exact ⟨_,_,rfl⟩
 rw [Ew] at LP ⊢;clear Ew;unfold dW at Ui ⊢;generalize (⟨(Lib.itoa (a:Int)).toArray⟩:ByteArray)=ta at *;generalize (⟨(Lib.itoa (b:Int)).toArray⟩:ByteArray)=tb at *;go_enter Tryz.func277,Tryz.ntmps277
 go_wp2_with fail
 refine (Ui.out _).mono ?_;rintro e w1 ⟨p1,l1,c1,p2,l2,c2,rfl,hb1,hx,hy⟩;have HX:=zh hx;have HY:=zh hy;have HB1:=zh hb1;clear hx hy hb1;go_wp2_with fail
 obtain ⟨wx,EW,hz,X1,X2,X3⟩:=LK w1 #[aj p1 l1 c1,ak false] 257 #[aj p2 l2 c2,ak false] 257 #[.func (.func 308) #[] #[],.func (.func 309) #[] #[],.func (.func 310) #[] #[],.func (.func 311) #[] #[]] 308;rw [EW];clear EW;replace HX:=zh (HX.out.later hz);replace HY:=zh (HY.out.later hz);have HB2:=zh (Bt HB1.out hz);clear hz HB1;obtain ⟨bx,eb⟩:∃ y,w1.heap.size=y:=⟨_,rfl⟩;rw [eb] at X1 X2 X3 ⊢;have nK:=X1.out.cell;have nI:=X1.out.lt;have uE:=X2.out.cell;have uz:=X2.out.lt;have cX3:=X3.out.cell;have lX3:=X3.out.lt;refine aO [(.pure,0),(.pure,1),(.pure,2),(.read,3),(.read,4),(.read,5),(.ext,6),(.ext,7),(.pure,8),(.pure,9),(.fin,10),(.fin,11)] zk zk zR zP ?_;refine zV ?_;refine aU rfl rfl (fun we hbe J hJ=>?_);go_simp;have h1:Below wx.heap.size wx we:=aJ;refine (HOP.out _ _ _ (IA.out _ _ _ _ (HX.out.later h1)) (IB.out _ _ _ _ (HY.out.later h1))).mono ?_
 rintro e w2 ⟨v,rfl,hb2,hv⟩;obtain ⟨p3,l3,c3,rfl,Zc⟩:=id hv;have HI:=zh hv;generalize decide ((r:Int)<0)=br at *;refine hJ _ _ hb2 ?_;clear hJ J;have h2:=Bt h1 hb2;clear hv h1 hbe hb2 Zc;refine zV ?_;refine aU rfl rfl (fun we hbe J hJ=>?_);go_simp;have h5:Below w2.heap.size w2 we:=aJ;refine (LP.out _ _ (HI.out.later h5) (HP.out.later (Bt HB2.out (Bt h2 h5)))).mono ?_;rintro e w4 ⟨rfl,hb4⟩;refine hJ _ _ hb4 ?_;clear hJ J;have h6:=Bt h2 (Bt h5 hb4);clear hb4 h5 h2 hbe;refine zV ?_;refine dD [_,_] rfl (fun wf hbf=>?_);have hw:Below w.heap.size w wf:=Bt HB2.out (Bt h6 aJ);go_wp2_with fail
 go_ret2
 exact ⟨rfl,hw⟩
theorem ug (a b:Nat) (ha:kS a=true) (hb:kS b=true) (w:World) (ht:jN.Pow w) :
  Calls Tryz.prog 289 #[dW (a:Int),dW (b:Int)] w (fun e w'=>e= ah (Bz (a*b:Nat))∧Below w.heap.size w w'):=by
 have H:=zh (Fz a b ha hb w ht)
 obtain ⟨tr,kr,Ew⟩:∃ tr kr,Bz (a*b:Nat)= aD #[O tr,Z I kr]:=by
  unfold Bz dW;split
  ·exact ⟨_,_,rfl⟩
  ·exact ⟨_,_,rfl⟩
 rw [Ew] at H ⊢;clear Ew ha hb ht;unfold dW at *;generalize (⟨(Lib.itoa (a:Int)).toArray⟩:ByteArray)=ta at *;generalize (⟨(Lib.itoa (b:Int)).toArray⟩:ByteArray)=tb at *;go_enter Tryz.func289,Tryz.ntmps289
 go_wp2_with fail
 refine H.out.mono ?_;rintro e w1 ⟨rfl,hb1⟩;go_wp2_with fail
 go_ret2
 exact ⟨rfl,hb1⟩
theorem FB (a b:Nat) (ha:kS a=true) (hb:kS b=true) (w:World) (ht:jN.Pow w) :
  Calls Tryz.prog 277 #[Z I 0,dW (a:Int),dW (b:Int)] w (fun e w'=>e= ah (Bz (a+b:Nat))∧Below w.heap.size w w'):=by
 have sa:=kY ha;have sb:=kY hb
 have sr:sz 1000000000 (a+b)≤1000:=by
  have h1:=mR (B:=1000000000) zo a b;have h2:=wY (B:=1000000000) zo a b;omega
 have Ui:=zh (fun W=>Ii a b (fZ.1 ha) (fZ.1 hb) W);have HOP:=zh (fun v u W hv hu=>wZ v u (a:Int) (b:Int) W hv hu (by rw [Int.natAbs_natCast];omega) (by rw [Int.natAbs_natCast];omega));have LP:=zh (fun v W h hq=>mI v (a+b:Nat) W h (by rw [Int.natAbs_natCast];omega) hq);have HP:=zh ht;clear sa sb sr ha hb ht;have e:(a:Int)+(b:Int)=((a+b:Nat):Int):=by simp
 rw [e] at HOP;have g0:decide ((a:Int)<0)=false:=by simp
 have g1:decide ((b:Int)<0)=false:=by simp
 have IA:Hid (∀ W p l c,bZ W (aj p l c) a→fK W (au #[aj p l c,ak false]) (a:Int)):=zh fun W p l c h=>⟨p,l,c,by rw [g0],by rw [Int.natAbs_natCast];exact h⟩;have IB:Hid (∀ W p l c,bZ W (aj p l c) b→fK W (au #[aj p l c,ak false]) (b:Int)):=zh fun W p l c h=>⟨p,l,c,by rw [g1],by rw [Int.natAbs_natCast];exact h⟩;clear e g0 g1;obtain ⟨r,Er⟩:∃ r,a+b=r:=⟨_,rfl⟩;rw [Er] at HOP LP ⊢;clear Er
 obtain ⟨tr,kr,Ew⟩:∃ tr kr,Bz (r:Int)= aD #[O tr,Z I kr]:=by
  unfold Bz dW;split
  ·exact ⟨_,_,rfl⟩
  ·exact ⟨_,_,rfl⟩
 rw [Ew] at LP ⊢;clear Ew;unfold dW at Ui ⊢;generalize (⟨(Lib.itoa (a:Int)).toArray⟩:ByteArray)=ta at *;generalize (⟨(Lib.itoa (b:Int)).toArray⟩:ByteArray)=tb at *;go_enter Tryz.func277,Tryz.ntmps277
 go_wp2_with fail
 refine (Ui.out _).mono ?_;rintro e w1 ⟨p1,l1,c1,p2,l2,c2,rfl,hb1,hx,hy⟩;have HX:=zh hx;have HY:=zh hy;have HB1:=zh hb1;clear hx hy hb1;go_wp2_with fail
 obtain ⟨wx,EW,hz,X1,X2,X3⟩:=LK w1 #[aj p1 l1 c1,ak false] 257 #[aj p2 l2 c2,ak false] 257 #[.func (.func 308) #[] #[],.func (.func 309) #[] #[],.func (.func 310) #[] #[],.func (.func 311) #[] #[]] 308;rw [EW];clear EW;replace HX:=zh (HX.out.later hz);replace HY:=zh (HY.out.later hz);have HB2:=zh (Bt HB1.out hz);clear hz HB1;obtain ⟨bx,eb⟩:∃ y,w1.heap.size=y:=⟨_,rfl⟩;rw [eb] at X1 X2 X3 ⊢;have nK:=X1.out.cell;have nI:=X1.out.lt;have uE:=X2.out.cell;have uz:=X2.out.lt;have cX3:=X3.out.cell;have lX3:=X3.out.lt;refine aO [(.pure,0),(.pure,1),(.pure,2),(.read,3),(.read,4),(.read,5),(.ext,6),(.ext,7),(.pure,8),(.pure,9),(.fin,10),(.fin,11)] zk zk zR zP ?_;refine zV ?_;refine aU rfl rfl (fun we hbe J hJ=>?_);go_simp;have h1:Below wx.heap.size wx we:=aJ;refine (HOP.out _ _ _ (IA.out _ _ _ _ (HX.out.later h1)) (IB.out _ _ _ _ (HY.out.later h1))).mono ?_
 rintro e w2 ⟨v,rfl,hb2,hv⟩;obtain ⟨p3,l3,c3,rfl,Zc⟩:=id hv;have HI:=zh hv;generalize decide ((r:Int)<0)=br at *;refine hJ _ _ hb2 ?_;clear hJ J;have h2:=Bt h1 hb2;clear hv h1 hbe hb2 Zc;refine zV ?_;refine aU rfl rfl (fun we hbe J hJ=>?_);go_simp;have h5:Below w2.heap.size w2 we:=aJ;refine (LP.out _ _ (HI.out.later h5) (HP.out.later (Bt HB2.out (Bt h2 h5)))).mono ?_;rintro e w4 ⟨rfl,hb4⟩;refine hJ _ _ hb4 ?_;clear hJ J;have h6:=Bt h2 (Bt h5 hb4);clear hb4 h5 h2 hbe;refine zV ?_;refine dD [_,_] rfl (fun wf hbf=>?_);have hw:Below w.heap.size w wf:=Bt HB2.out (Bt h6 aJ);go_wp2_with fail
 go_ret2
 exact ⟨rfl,hw⟩
theorem uj (a b:Nat) (ha:kS a=true) (hb:kS b=true) (w:World) (ht:jN.Pow w) :
  Calls Tryz.prog 231 #[dW (a:Int),dW (b:Int)] w (fun e w'=>e= ah (Bz (a+b:Nat))∧Below w.heap.size w w'):=by
 have H:=zh (FB a b ha hb w ht)
 obtain ⟨tr,kr,Ew⟩:∃ tr kr,Bz (a+b:Nat)= aD #[O tr,Z I kr]:=by
  unfold Bz dW;split
  ·exact ⟨_,_,rfl⟩
  ·exact ⟨_,_,rfl⟩
 rw [Ew] at H ⊢;clear Ew ha hb ht;unfold dW at *;generalize (⟨(Lib.itoa (a:Int)).toArray⟩:ByteArray)=ta at *;generalize (⟨(Lib.itoa (b:Int)).toArray⟩:ByteArray)=tb at *;go_enter Tryz.func231,Tryz.ntmps231
 go_wp2_with fail
 refine H.out.mono ?_;rintro e w1 ⟨rfl,hb1⟩;go_wp2_with fail
 go_ret2
 exact ⟨rfl,hb1⟩
end Go.Proofs.whole
