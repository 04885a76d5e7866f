/- Lemmas for the proof. No condition. -/
import Derived.Test.YtbngfhgoeoncmaaGreatDoorWB05
import Derived.Test.YtbngfhgoeoncmaaGreatDoorWB08
import Derived.Laws.EntriesVeiled
set_option linter.unusedVariables false
set_option linter.unusedSimpArgs false
set_option maxRecDepth 100000
set_option maxHeartbeats 16000000
open Bool renaming and_eq_true → aF, false_eq_true → cK
open Go.Ending renaming returned → aj
open Go.IntKind renaming i64 → I
open Go.Value renaming agg → aB, bool → ak, int → Z, pointer → ay, slice → ah, string → O, tuple → aD
open List renaming range → dB, replicate → bJ
open Nat renaming add_zero → fZ, le_refl → aC, le_trans → au, lt_or_ge → aH, one_mul → iL
namespace Go.Proofs.whole
open Go Go.RowKit Go.SW Go.Num Go.Mem Go.Proofs Go.Dec Go.fG
theorem GZ (a b:Nat) (ha:ou a=true) (hb:ou b=true) (w:World) (ht:ko.Pow w) :
  Calls Tryz.prog 167 #[Z I 2,fO (a:Int),fO (b:Int)] w (fun e w'=>e= aj (K7 (a*b:Nat))∧Below w.heap.size w w'):=by
 have sa:=ni ha;have sb:=ni hb
 have sr:sz 1000000000 (a*b)≤1000:=by
  have h1:=mR (B:=1000000000) zo a b;have h2:=AZ (B:=1000000000) zo a b;omega
 have Yn:=zh (fun W=>QK a b (fJ.1 ha) (fJ.1 hb) W);have HOP:=zh (fun v u W hv hu=>qK v u (a:Int) (b:Int) W hv hu (by rw [Int.natAbs_natCast];omega) (by rw [Int.natAbs_natCast];omega));have NI:=zh (fun v W h hq=>kV v (a*b:Nat) W h (by rw [Int.natAbs_natCast];omega) hq);have HP:=zh ht;clear sa sb sr ha hb ht;have e:(a:Int)*(b:Int)=((a*b:Nat):Int):=by simp
 rw [e] at HOP;have g0:decide ((a:Int)<0)=false:=by simp
 have g1:decide ((b:Int)<0)=false:=by simp
 have IA:Hid (∀ W p l c,aZ W (ah p l c) a→dS W (aB #[ah p l c,ak false]) (a:Int)):=zh fun W p l c h=>⟨p,l,c,by rw [g0],by rw [Int.natAbs_natCast];exact h⟩;have IB:Hid (∀ W p l c,aZ W (ah p l c) b→dS W (aB #[ah p l c,ak false]) (b:Int)):=zh fun W p l c h=>⟨p,l,c,by rw [g1],by rw [Int.natAbs_natCast];exact h⟩;clear e g0 g1;obtain ⟨r,Er⟩:∃ r,a*b=r:=⟨_,rfl⟩;rw [Er] at HOP NI ⊢;clear Er
 obtain ⟨tr,kr,Ew⟩:∃ tr kr,K7 (r:Int)= aD #[O tr,Z I kr]:=by
  unfold K7 fO;split
  ·exact ⟨_,_,rfl⟩
  ·exact ⟨_,_,rfl⟩
 rw [Ew] at NI ⊢;clear Ew;unfold fO at Yn ⊢;generalize (⟨(Lib.itoa (a:Int)).toArray⟩:ByteArray)=ta at *;generalize (⟨(Lib.itoa (b:Int)).toArray⟩:ByteArray)=tb at *;go_enter Tryz.func167,Tryz.ntmps167
 go_wp2_with fail
 refine (Yn.out _).mono ?_;rintro e w1 ⟨p1,l1,c1,p2,l2,c2,rfl,hb1,hx,hy⟩;have HX:=zh hx;have HY:=zh hy;have HB1:=zh hb1;clear hx hy hb1;go_wp2_with fail
 obtain ⟨wx,EW,hz,X1,X2,X3⟩:=Uc w1 #[ah p1 l1 c1,ak false] 234 #[ah p2 l2 c2,ak false] 234 #[.func (.func 236) #[] #[],.func (.func 237) #[] #[],.func (.func 238) #[] #[],.func (.func 239) #[] #[]] 302;rw [EW];clear EW;replace HX:=zh (HX.out.later hz);replace HY:=zh (HY.out.later hz);have HB2:=zh (Bt HB1.out hz);clear hz HB1;obtain ⟨bx,eb⟩:∃ y,w1.heap.size=y:=⟨_,rfl⟩;rw [eb] at X1 X2 X3 ⊢;have qx:=X1.out.cell;have qo:=X1.out.lt;have Cz:=X2.out.cell;have Cr:=X2.out.lt;have Yj:=X3.out.cell;have Yd:=X3.out.lt;refine aO [(.pure,0),(.pure,1),(.pure,2),(.read,3),(.read,4),(.read,5),(.ext,6),(.ext,7),(.pure,8),(.pure,9),(.fin,10),(.fin,11)] zk zk zR zP ?_;refine zV ?_;refine aL rfl rfl (fun we hbe J hJ=>?_);go_simp;have h1:Below wx.heap.size wx we:=aI;refine (HOP.out _ _ _ (IA.out _ _ _ _ (HX.out.later h1)) (IB.out _ _ _ _ (HY.out.later h1))).mono ?_
 rintro e w2 ⟨v,rfl,hb2,hv⟩;obtain ⟨p3,l3,c3,rfl,hm3⟩:=id hv;have HI:=zh hv;generalize decide ((r:Int)<0)=br at *;refine hJ _ _ hb2 ?_;clear hJ J;have h2:=Bt h1 hb2;clear hv h1 hbe hb2 hm3;refine zV ?_;refine aL rfl rfl (fun we hbe J hJ=>?_);go_simp;have h5:Below w2.heap.size w2 we:=aI;refine (NI.out _ _ (HI.out.later h5) (HP.out.later (Bt HB2.out (Bt h2 h5)))).mono ?_;rintro e w4 ⟨rfl,hb4⟩;refine hJ _ _ hb4 ?_;clear hJ J;have h6:=Bt h2 (Bt h5 hb4);clear hb4 h5 h2 hbe;refine zV ?_;refine cZ [_,_] rfl (fun wf hbf=>?_);have hw:Below w.heap.size w wf:=Bt HB2.out (Bt h6 aI);go_wp2_with fail
 go_ret2
 exact ⟨rfl,hw⟩
theorem oK (a b:Nat) (ha:ou a=true) (hb:ou b=true) (w:World) (ht:ko.Pow w) :
  Calls Tryz.prog 100 #[fO (a:Int),fO (b:Int)] w (fun e w'=>e= aj (K7 (a*b:Nat))∧Below w.heap.size w w'):=by
 have H:=zh (GZ a b ha hb w ht)
 obtain ⟨tr,kr,Ew⟩:∃ tr kr,K7 (a*b:Nat)= aD #[O tr,Z I kr]:=by
  unfold K7 fO;split
  ·exact ⟨_,_,rfl⟩
  ·exact ⟨_,_,rfl⟩
 rw [Ew] at H ⊢;clear Ew ha hb ht;unfold fO at *;generalize (⟨(Lib.itoa (a:Int)).toArray⟩:ByteArray)=ta at *;generalize (⟨(Lib.itoa (b:Int)).toArray⟩:ByteArray)=tb at *;go_enter Tryz.func100,Tryz.ntmps100
 go_wp2_with fail
 refine H.out.mono ?_;rintro e w1 ⟨rfl,hb1⟩;go_wp2_with fail
 go_ret2
 exact ⟨rfl,hb1⟩
theorem qX (a b:Nat) (ha:ou a=true) (hb:ou b=true) (b0:0<b) (w:World) (ht:ko.Pow w) :
  Calls Tryz.prog 102 #[fO (a:Int),fO (b:Int)] w (fun e w'=>e= aj (aD #[fO (a / b:Nat),fO (a%b:Nat),Z I 0])∧Below w.heap.size w w'):=by
 have sa:=ni ha;have q1:ou (a / b)=true:=wh ha (Nat.div_le_self _ _);have q2:ou (a%b)=true:=wh ha (Nat.mod_le _ _);have Yn:=zh (fun W=>QK a b (fJ.1 ha) (fJ.1 hb) W);have NM:=zh (fun x y W hx hy=>eZ x y a b W hx hy b0 zo);have HW1:=zh (fun v W h hq=>kV v (a / b:Nat) W h (by rw [Int.natAbs_natCast];exact au (ni q1) zo) hq);have HW2:=zh (fun v W h hq=>kV v (a%b:Nat) W h (by rw [Int.natAbs_natCast];exact au (ni q2) zo) hq);rw [AU q1] at HW1;rw [AU q2] at HW2;have HP:=zh ht;have d0:decide (b=0)=false:=by simp;omega
 clear sa q1 q2 ha hb ht;obtain ⟨q,Eq⟩:∃ q,a / b=q:=⟨_,rfl⟩;obtain ⟨r,Er⟩:∃ r,a%b=r:=⟨_,rfl⟩;rw [Eq] at HW1;rw [Er] at HW2;have ba5:Hid (∀ x y W,aZ W x a→aZ W y b→Calls Tryz.prog 171 #[x,y] W (kT W q r)):=zh (by rw [← Eq,← Er];exact NM.out);rw [Eq,Er];clear NM Eq Er b0;unfold fO at *;generalize (⟨(Lib.itoa (a:Int)).toArray⟩:ByteArray)=ta at *;generalize (⟨(Lib.itoa (b:Int)).toArray⟩:ByteArray)=tb at *;generalize (⟨(Lib.itoa (q:Int)).toArray⟩:ByteArray)=tq at *;generalize (⟨(Lib.itoa (r:Int)).toArray⟩:ByteArray)=tr at *;go_enter Tryz.func102,Tryz.ntmps102
 go_wp2_with fail
 refine (Yn.out _).mono ?_;rintro e w1 ⟨p1,l1,c1,p2,l2,c2,rfl,hb1,hx,hy⟩;have HX:=zh hx;have HY:=zh hy;have HB1:=zh hb1;clear hx hy hb1
 go_upto_region 2 with fail
 obtain ⟨wx,EW,hz,X1,X2⟩:=Ud w1 #[ah p1 l1 c1,ak false] 234 #[ah p2 l2 c2,ak false] 234;rw [EW];clear EW;replace HX:=zh (HX.out.later hz);replace HY:=zh (HY.out.later hz);have HB2:=zh (Bt HB1.out hz);clear hz HB1;obtain ⟨bx,eb⟩:∃ y,w1.heap.size=y:=⟨_,rfl⟩;rw [eb] at X1 X2 ⊢;obtain ⟨qx,qo⟩:=X1.cl;obtain ⟨Cz,Cr⟩:=X2.cl;go_wp2_with fail
 refine (iI _ b _ HY.out).mono ?_;rintro e w2 ⟨rfl,rfl⟩;rw [d0];go_wp2_with fail
 refine (ba5.out _ _ _ HX.out HY.out).mono ?_;rintro e w3 ⟨v3,v4,rfl,hb3,hv3,hv4⟩;obtain ⟨p3,l3,c3,rfl⟩:=hv3.slice;obtain ⟨p4,l4,c4,rfl⟩:=hv4.slice;have HQ:=zh hv3;have HR:=zh hv4;have HB3:=zh (Bt HB2.out hb3);replace X1:=X1.bl hb3;replace X2:=X2.bl hb3;clear hv3 hv4 hb3 HX HY HB2 qx qo Cz Cr;obtain ⟨qx,qo⟩:=X1.cl;obtain ⟨Cz,Cr⟩:=X2.cl;go_wp2_with fail
 refine (fF _ q false _ HQ.out).mono ?_;rintro e w4 ⟨v,rfl,hb4,hv⟩;obtain ⟨p5,l5,c5,rfl,hm5⟩:=id hv;have HI:=zh (hv.cast (show iR q false=(q:Int) from rfl));have g3:decide (iR q false<0)=false:=by unfold iR;simp
 rw [g3] at HI ⊢;have HB4:=zh (Bt HB3.out hb4);replace HR:=zh (HR.out.later hb4);clear hv hm5 hb4 HB3 g3 qx qo Cz Cr;go_wp2_with fail
 refine (HW1.out _ _ HI.out (HP.out.later HB4.out)).mono ?_;rintro e w5 ⟨rfl,hb5⟩;have HB5:=zh (Bt HB4.out hb5);replace HR:=zh (HR.out.later hb5);clear hb5 HB4 HI;go_wp2_with fail
 refine (fF _ r false _ HR.out).mono ?_;rintro e w6 ⟨v,rfl,hb6,hv⟩;obtain ⟨p6,l6,c6,rfl,hm6⟩:=id hv;have HI:=zh (hv.cast (show iR r false=(r:Int) from rfl));have g3:decide (iR r false<0)=false:=by unfold iR;simp
 rw [g3] at HI ⊢;have XR:=zh (Bt HB5.out hb6);clear hv hm6 hb6 HB5 g3;go_wp2_with fail
 refine (HW2.out _ _ HI.out (HP.out.later XR.out)).mono ?_;rintro e w7 ⟨rfl,jY⟩;have hw:=Bt XR.out jY;go_wp2_with fail
 go_ret3
 exact ⟨rfl,hw⟩
end Go.Proofs.whole
namespace Go.Proofs.power
open Go Go.RowKit Go.SW Go.Num Go.Mem Go.Proofs Go.Dec Go.fG Go.Proofs.whole
theorem QX {a b:Nat}:((⟨(Lib.itoa (a:Int)).toArray⟩:ByteArray).toList == (⟨(Lib.itoa (b:Int)).toArray⟩:ByteArray).toList)=decide (a=b):=by
 rw [ByteArray.toList_eq,ByteArray.toList_eq]
 show (Lib.itoa (a:Int) == Lib.itoa (b:Int))=_
 by_cases h:a=b
 ·subst h;simp
 ·rw [decide_eq_false h];refine beq_eq_false_iff_ne.2 fun e=>h ?_;have:=zY e;omega
theorem CX (a k:Nat) (ha:ou a=true) (hk:1≤k) (k12:k≤12) (w:World) (ht:ko.Pow w) :
  Calls Tryz.prog 103 #[fO (a:Int),Z I (k:Int)] w (fun e w'=>e= aj (aD #[fO (iX k a:Nat),ak (decide (iX k a^k=a)),Z I 0])∧Below w.heap.size w w'):=by
 have hle:=(nC hk a).1;have hro:ou (iX k a)=true:=wh ha (uO hk);have HR:=zh (fun W hp=>KJ a k ha hk k12 W hp);have RH:=zh (fun W hp=>BG (iX k a) k hro zo W hp);rw [AU (wh ha hle)] at RH;have he:((⟨(Lib.itoa ((iX k a^k:Nat):Int)).toArray⟩:ByteArray).toList == (⟨(Lib.itoa (a:Int)).toArray⟩:ByteArray).toList)=decide (iX k a^k=a):=QX;have HP:=zh ht;clear hle hro ha ht;generalize decide (iX k a^k=a)=ex at *;generalize iX k a^k=rp at *;generalize iX k a=r at *;unfold fO at *;generalize (⟨(Lib.itoa (a:Int)).toArray⟩:ByteArray)=ta at *;generalize (⟨(Lib.itoa (rp:Int)).toArray⟩:ByteArray)=tp at *;generalize (⟨(Lib.itoa (r:Int)).toArray⟩:ByteArray)=tr at *;go_enter Tryz.func103,Tryz.ntmps103
 go_wp2_with fail
 refine (HR.out _ HP.out).mono ?_;rintro e w1 ⟨rfl,hb1⟩;have HB1:=zh hb1;clear hb1;go_wp2_with fail
 refine (RH.out _ (HP.out.later HB1.out)).mono ?_;rintro e w2 ⟨rfl,hb2⟩;have hw:=Bt HB1.out hb2;go_wp2_with fail
 go_ret3
 exact ⟨by rw [← he];rfl,hw⟩
theorem V6 (c:Nat):Lib.itoa ((10^c:Nat):Int)=49::Lib.repeatL [48] c:=by
 have h:=Di c 1 0 zo (Nat.pow_pos zo);rw [iL,fZ,iY (u:=1) zo,EU] at h;have hr:=Lib.repeatL_replicate 48 1 c;rw [Nat.mul_one] at hr;rw [show ([48]:List UInt8)=bJ 1 48 from rfl,hr];exact h
theorem uq (c:Nat) (hc:c≤1000) (w:World) :
  Calls Tryz.prog 101 #[Z I (c:Int)] w (fun e w'=>e= aj (fO (10^c:Nat))∧Below w.heap.size w w'):=by
 have H:=zh (fun W=>Tryz.strings_Repeat ⟨#[48]⟩ c W zo (by rw [show (⟨#[48]⟩:ByteArray).size=1 from rfl];omega))
 have e:(⟨(Lib.itoa ((10^c:Nat):Int)).toArray⟩:ByteArray)=(⟨#[49]⟩:ByteArray)++⟨(Lib.repeatL [48] c).toArray⟩:=by
  rw [V6];apply ByteArray.ext
  simp
 unfold fO;rw [e];clear e
 have hs:(⟨(Lib.repeatL [48] c).toArray⟩:ByteArray).size≤1000:=by
  show (Lib.repeatL [48] c).length≤1000
  rw [Lib.repeatL_length];simp
  omega
 generalize (⟨(Lib.repeatL [48] c).toArray⟩:ByteArray)=t at *;go_enter Tryz.func101,Tryz.ntmps101
 go_wp2_with fail
 refine (H.out _).mono ?_;rintro e w1 ⟨rfl,hb1⟩;go_wp2_with fail
 go_ret
 exact ⟨rfl,hb1⟩
def SX (n:Nat) (up:Bool):Int × Int:=if n≤1000000000000000000 then ((n:Int)+(if up then 1 else 0),0) else (0,6)
theorem Fy (n:Nat) (up:Bool) (hn:ou n=true) (w:World) (he:Er w) :
  Calls Tryz.prog 104 #[fO (n:Int),ak up] w (fun e w'=>e= aj (aD #[Z I (SX n up).1,Z I (SX n up).2])∧Below w.heap.size w w'):=by
 have H:=zh (fun W h=>az8 n hn W h);have HE:=zh he;clear hn he;unfold fO ar2 at *;generalize (⟨(Lib.itoa (n:Int)).toArray⟩:ByteArray)=t at *;unfold SX
 by_cases h1:n<9223372036854775808
 ·simp only [if_pos h1] at H
  by_cases h2:n≤1000000000000000000
  ·have g:decide ((1000000000000000000:Int)<(n:Int))=false:=by simp;omega
   simp only [if_pos h2];cases up
   all_goals
    go_enter Tryz.func104,Tryz.ntmps104
    go_wp2_with fail
    refine (H.out _ HE.out).mono ?_;rintro e w1 ⟨rfl,hb1⟩;go_wp2_with fail
    go_ret2
    exact ⟨by simp,hb1⟩
  ·have g:decide ((1000000000000000000:Int)<(n:Int))=true:=by simp;omega
   simp only [if_neg h2];go_enter Tryz.func104,Tryz.ntmps104
   go_wp2_with fail
   refine (H.out _ HE.out).mono ?_;rintro e w1 ⟨rfl,hb1⟩;go_wp2_with fail
   go_ret2
   exact ⟨rfl,hb1⟩
 ·simp only [if_neg h1] at H;have h2:¬ n≤1000000000000000000:=by omega
  simp only [if_neg h2];go_enter Tryz.func104,Tryz.ntmps104
  go_wp2_with fail
  refine (H.out _ HE.out).mono ?_;rintro e w1 ⟨rfl,hb1⟩;go_wp2_with fail
  go_ret2
  exact ⟨rfl,hb1⟩
theorem Ux {c k:Nat} (h:c<k):10^c<kL k:=by
 unfold kL;exact Nat.pow_lt_pow_right zo h
theorem QL {c:Nat} (h:c<600):ou (10^c)=true:=by
 unfold ou;exact decide_eq_true (Ux h)
theorem JM {n:Nat}:ou n=true↔n<10^600:=by
 unfold ou kL;exact decide_eq_true_iff
theorem zero_eq (b:Nat):((⟨(Lib.itoa (b:Int)).toArray⟩:ByteArray).toList == [48])=decide (b=0):=by
 have:= @QX b 0
 have e:(⟨(Lib.itoa ((0:Nat):Int)).toArray⟩:ByteArray).toList=[48]:=by
  rw [ByteArray.toList_eq]
  show Lib.itoa ((0:Nat):Int)=[48]
  decide+kernel
 rw [e] at this;exact this
theorem J8 {n p q:Nat} {up:Bool} (h:¬ nT n p q≤10^18):yR n p q up=(0,6):=by
 unfold yR;rw [if_neg h]
theorem Mr {n p q:Nat} {up:Bool}:SX (nT n p q) (up&& !(QJ n p q))=yR n p q up:=by
 by_cases h:nT n p q≤10^18
 ·rw [aa1 h];unfold SX;rw [if_pos h]
 ·rw [J8 h];unfold SX;rw [if_neg h]
theorem J7 (n p q:Nat) (up:Bool) (hn:n≤10^18) (p1:1≤p) (p36:p≤36) (q1:1≤q) (q12:q≤12) (w:World) (ht:ko.Pow w) (he:Er w) :
  Calls Tryz.prog 52 #[aB #[Z I (p:Int),Z I (q:Int)],Z I (n:Int),ak up] w (fun e w'=>e= aj (aD #[Z I (yR n p q up).1,Z I (yR n p q up).2])∧Below w.heap.size w w'):=by
 have hn0:ou n=true:=JM.2 (Nat.lt_of_le_of_lt hn (by decide+kernel))
 have h63:(n:Int)≤9223372036854775807:=by
  have:(10:Nat)^18=1000000000000000000:=by decide
  omega
 have HO:=zh (fun W h=>Vv (n:Int) zo h63 W h);have RH:=zh (fun W h=>BG n p hn0 zo W h);have HP:=zh ht;have HE:=zh he;clear ht he h63
 by_cases h1:ou (n^p)=true
 ·rw [AU h1] at RH
  by_cases hpq:p≤q
  ·have g:decide ((p:Int)≤(q:Int))=true:=by simp;omega
   have e12:(12:Int)*((q:Int) - (p:Int))=((12*(q - p):Nat):Int):=by omega
   have h12:12*(q - p)≤132:=by omega
   have HT:=zh (fun W=>uq (12*(q - p)) zo W);have HM:=zh (fun W h=>oK (n^p) (10^(12*(q - p))) h1 (QL zo) W h);have ea:=LK (n:=n) hpq;rw [← ea] at HM;have ex:QJ n p q=_:=ao5 hpq
   by_cases h2:ou (kW n p q)=true
   ·rw [AU h2] at HM;have HR:=zh (fun W h=>CX (kW n p q) q h2 q1 q12 W h);have HI:=zh (fun W h=>Fy (nT n p q) (up&& !(QJ n p q)) (wh h2 (uO q1)) W h);rw [Mr] at HI
    change Hid (∀ (W:World),ko.Pow W→Calls _ _ _ _ (fun e w'=>e= aj (aD #[fO ((nT n p q:Nat):Int),ak (decide (nT n p q^q=kW n p q)),Z I 0])∧_)) at HR
    rw [← ex] at HR;clear ex ea h2 h1 hn0;obtain ⟨v,Ev⟩:∃ v,yR n p q up=v:=⟨_,rfl⟩;rw [Ev] at HI ⊢;obtain ⟨v1,v2⟩:=v;clear Ev;simp only at HI ⊢;generalize 10^(12*(q - p))=t12 at *;generalize 12*(q - p)=c12 at *;generalize QJ n p q=ex at *;generalize nT n p q=r at *;generalize kW n p q=a at *;generalize n^p=np at *;clear hn;unfold fO at *;generalize (⟨(Lib.itoa (n:Int)).toArray⟩:ByteArray)=tn at *;generalize (⟨(Lib.itoa (np:Int)).toArray⟩:ByteArray)=tnp at *;generalize (⟨(Lib.itoa (t12:Int)).toArray⟩:ByteArray)=aD3 at *;generalize (⟨(Lib.itoa (a:Int)).toArray⟩:ByteArray)=ta at *;generalize (⟨(Lib.itoa (r:Int)).toArray⟩:ByteArray)=tr at *;go_enter Tryz.func52,Tryz.ntmps52
    go_wp2_with fail
    obtain ⟨wx,EW,hz,X⟩:=Gc w #[Z I (p:Int),Z I (q:Int)] 107;rw [EW];clear EW;have HB1:=zh hz;clear hz;obtain ⟨bx,eb⟩:∃ y,w.heap.size=y:=⟨_,rfl⟩;rw [eb] at X ⊢;obtain ⟨cX,lX⟩:=X.cl;refine aO [(.pure,0),(.pure,2),(.pure,3),(.read,4),(.ext,1),(.ext,5),(.pure,6),(.pure,7),(.pure,8),(.fin,9),(.fin,10)] zk zk zR zP ?_;refine zW ?_;refine aL rfl rfl (fun we hbe J hJ=>?_);go_simp;have h1:Below wx.heap.size wx we:=aI;refine (HO.out _ (HP.out.later (Bt HB1.out h1))).mono ?_;rintro e w1 ⟨rfl,hb1⟩;refine hJ _ _ hb1 ?_;clear hJ J;have h2:=Bt h1 hb1;clear h1 hbe hb1;refine aL rfl rfl (fun we hbe J hJ=>?_);go_simp;have h3:Below w1.heap.size w1 we:=aI;refine (RH.out _ (HP.out.later (Bt HB1.out (Bt h2 h3)))).mono ?_;rintro e w2 ⟨rfl,hb2⟩;refine hJ _ _ hb2 ?_;clear hJ J;have h4:=Bt h2 (Bt h3 hb2);clear h3 h2 hbe hb2;refine zV ?_
    refine cZ [_,_] rfl (fun wf hbf=>?_);have h5:Below wx.heap.size wx wf:=Bt h4 aI;replace X:=X.bl h5;replace HB1:=zh (Bt HB1.out h5);clear h5 h4 hbf cX lX;obtain ⟨cX,lX⟩:=X.cl;go_wp2_with fail
    try rw [e12]
    refine (HT.out _).mono ?_;rintro e w3 ⟨rfl,hb3⟩;replace HB1:=zh (Bt HB1.out hb3);replace X:=X.bl hb3;clear hb3 cX lX;obtain ⟨cX,lX⟩:=X.cl;go_wp2_with fail
    refine (HM.out _ (HP.out.later HB1.out)).mono ?_;rintro e w4 ⟨rfl,hb4⟩;replace HB1:=zh (Bt HB1.out hb4);replace X:=X.bl hb4;clear hb4 cX lX;obtain ⟨cX,lX⟩:=X.cl;go_wp2_with fail
    refine (HR.out _ (HP.out.later HB1.out)).mono ?_;rintro e w5 ⟨rfl,hb5⟩;replace HB1:=zh (Bt HB1.out hb5);clear hb5 X cX lX;cases up<;>cases ex
    all_goals
     go_wp2_with fail
     refine (HI.out _ (HE.out.later HB1.out)).mono ?_;rintro e w6 ⟨rfl,hb6⟩;have hw:=Bt HB1.out hb6;go_wp2_with fail
     go_ret2
     exact ⟨rfl,hw⟩
   ·have hno:¬ nT n p q≤10^18:=Nat.not_le.2 (Xu q1 q12 (Nat.not_lt.1 fun h=>h2 (JM.2 h)));rw [J8 hno];rw [show K7 ((kW n p q:Nat):Int)= aD #[O ⟨#[]⟩,Z I 6] from by unfold K7;rw [Int.natAbs_natCast,if_neg h2]] at HM;clear ex ea h2 h1 hn0 hno;generalize 10^(12*(q - p))=t12 at *;generalize 12*(q - p)=c12 at *;generalize n^p=np at *;clear hn;unfold fO at *;generalize (⟨(Lib.itoa (n:Int)).toArray⟩:ByteArray)=tn at *;generalize (⟨(Lib.itoa (np:Int)).toArray⟩:ByteArray)=tnp at *;generalize (⟨(Lib.itoa (t12:Int)).toArray⟩:ByteArray)=aD3 at *;go_enter Tryz.func52,Tryz.ntmps52
    go_wp2_with fail
    obtain ⟨wx,EW,hz,X⟩:=Gc w #[Z I (p:Int),Z I (q:Int)] 107;rw [EW];clear EW;have HB1:=zh hz;clear hz;obtain ⟨bx,eb⟩:∃ y,w.heap.size=y:=⟨_,rfl⟩;rw [eb] at X ⊢;obtain ⟨cX,lX⟩:=X.cl;refine aO [(.pure,0),(.pure,2),(.pure,3),(.read,4),(.ext,1),(.ext,5),(.pure,6),(.pure,7),(.pure,8),(.fin,9),(.fin,10)] zk zk zR zP ?_;refine zW ?_;refine aL rfl rfl (fun we hbe J hJ=>?_);go_simp;have h1:Below wx.heap.size wx we:=aI;refine (HO.out _ (HP.out.later (Bt HB1.out h1))).mono ?_;rintro e w1 ⟨rfl,hb1⟩;refine hJ _ _ hb1 ?_;clear hJ J;have h2:=Bt h1 hb1;clear h1 hbe hb1;refine aL rfl rfl (fun we hbe J hJ=>?_);go_simp;have h3:Below w1.heap.size w1 we:=aI;refine (RH.out _ (HP.out.later (Bt HB1.out (Bt h2 h3)))).mono ?_;rintro e w2 ⟨rfl,hb2⟩;refine hJ _ _ hb2 ?_;clear hJ J;have h4:=Bt h2 (Bt h3 hb2);clear h3 h2 hbe hb2;refine zV ?_
    refine cZ [_,_] rfl (fun wf hbf=>?_);have h5:Below wx.heap.size wx wf:=Bt h4 aI;replace X:=X.bl h5;replace HB1:=zh (Bt HB1.out h5);clear h5 h4 hbf cX lX;obtain ⟨cX,lX⟩:=X.cl;go_wp2_with fail
    try rw [e12]
    refine (HT.out _).mono ?_;rintro e w3 ⟨rfl,hb3⟩;replace HB1:=zh (Bt HB1.out hb3);replace X:=X.bl hb3;clear hb3 cX lX;obtain ⟨cX,lX⟩:=X.cl;go_wp2_with fail
    refine (HM.out _ (HP.out.later HB1.out)).mono ?_;rintro e w4 ⟨rfl,hb4⟩;have hw:=Bt HB1.out hb4;go_wp2_with fail
    go_ret2
    exact ⟨rfl,hw⟩
  ·have g:decide ((p:Int)≤(q:Int))=false:=by simp;omega
   have e12:(12:Int)*((p:Int) - (q:Int))=((12*(p - q):Nat):Int):=by omega
   have h12:12*(p - q)≤420:=by omega
   have HT:=zh (fun W=>uq (12*(p - q)) zo W);have HM:=zh (fun W h=>qX (n^p) (10^(12*(p - q))) h1 (QL zo) (rD _) W h);have ea:=LM (n:=n) (p:=p) (q:=q) zo;rw [← ea] at HM;have ex:QJ n p q=_:=ao6 q1 zo
   have h2:ou (kW n p q)=true:=by
    rw [ea];exact wh h1 (Nat.div_le_self _ _)
   ·have HR:=zh (fun W h=>CX (kW n p q) q h2 q1 q12 W h);have HI:=zh (fun W h=>Fy (nT n p q) (up&& !(QJ n p q)) (wh h2 (uO q1)) W h);rw [Mr] at HI
    change Hid (∀ (W:World),ko.Pow W→Calls _ _ _ _ (fun e w'=>e= aj (aD #[fO ((nT n p q:Nat):Int),ak (decide (nT n p q^q=kW n p q)),Z I 0])∧_)) at HR
    rw [ex] at HI;clear ex ea h2 h1 hn0;obtain ⟨v,Ev⟩:∃ v,yR n p q up=v:=⟨_,rfl⟩;rw [Ev] at HI ⊢;obtain ⟨v1,v2⟩:=v;clear Ev;simp only at HI ⊢;have hz:=zero_eq (n^p%10^(12*(p - q)));rw [← hz] at HI;clear hz;generalize n^p%10^(12*(p - q))=rm at *;generalize 10^(12*(p - q))=t12 at *;generalize 12*(p - q)=c12 at *;generalize decide (nT n p q^q=kW n p q)=ex at *;generalize nT n p q=r at *;generalize kW n p q=a at *;generalize n^p=np at *;clear hn;unfold fO at *;generalize (⟨(Lib.itoa (n:Int)).toArray⟩:ByteArray)=tn at *;generalize (⟨(Lib.itoa (np:Int)).toArray⟩:ByteArray)=tnp at *;generalize (⟨(Lib.itoa (t12:Int)).toArray⟩:ByteArray)=aD3 at *;generalize (⟨(Lib.itoa (a:Int)).toArray⟩:ByteArray)=ta at *;generalize (⟨(Lib.itoa (r:Int)).toArray⟩:ByteArray)=tr at *;generalize (⟨(Lib.itoa (rm:Int)).toArray⟩:ByteArray)=tm at *;go_enter Tryz.func52,Tryz.ntmps52
    go_wp2_with fail
    obtain ⟨wx,EW,hz,X⟩:=Gc w #[Z I (p:Int),Z I (q:Int)] 107;rw [EW];clear EW;have HB1:=zh hz;clear hz;obtain ⟨bx,eb⟩:∃ y,w.heap.size=y:=⟨_,rfl⟩;rw [eb] at X ⊢;obtain ⟨cX,lX⟩:=X.cl;refine aO [(.pure,0),(.pure,2),(.pure,3),(.read,4),(.ext,1),(.ext,5),(.pure,6),(.pure,7),(.pure,8),(.fin,9),(.fin,10)] zk zk zR zP ?_;refine zW ?_;refine aL rfl rfl (fun we hbe J hJ=>?_);go_simp;have h1:Below wx.heap.size wx we:=aI;refine (HO.out _ (HP.out.later (Bt HB1.out h1))).mono ?_;rintro e w1 ⟨rfl,hb1⟩;refine hJ _ _ hb1 ?_;clear hJ J;have h2:=Bt h1 hb1;clear h1 hbe hb1;refine aL rfl rfl (fun we hbe J hJ=>?_);go_simp;have h3:Below w1.heap.size w1 we:=aI;refine (RH.out _ (HP.out.later (Bt HB1.out (Bt h2 h3)))).mono ?_;rintro e w2 ⟨rfl,hb2⟩;refine hJ _ _ hb2 ?_;clear hJ J;have h4:=Bt h2 (Bt h3 hb2);clear h3 h2 hbe hb2;refine zV ?_
    refine cZ [_,_] rfl (fun wf hbf=>?_);have h5:Below wx.heap.size wx wf:=Bt h4 aI;replace X:=X.bl h5;replace HB1:=zh (Bt HB1.out h5);clear h5 h4 hbf cX lX;obtain ⟨cX,lX⟩:=X.cl;go_wp2_with fail
    try rw [e12]
    refine (HT.out _).mono ?_;rintro e w3 ⟨rfl,hb3⟩;replace HB1:=zh (Bt HB1.out hb3);replace X:=X.bl hb3;clear hb3 cX lX;obtain ⟨cX,lX⟩:=X.cl;go_wp2_with fail
    refine (HM.out _ (HP.out.later HB1.out)).mono ?_;rintro e w4 ⟨rfl,hb4⟩;replace HB1:=zh (Bt HB1.out hb4);replace X:=X.bl hb4;clear hb4 cX lX;obtain ⟨cX,lX⟩:=X.cl;go_wp2_with fail
    refine (HR.out _ (HP.out.later HB1.out)).mono ?_;rintro e w5 ⟨rfl,hb5⟩;replace HB1:=zh (Bt HB1.out hb5);clear hb5 X cX lX;cases hz:(tm.toList == [48])<;>rw [hz] at HI<;>cases up<;>cases ex
    all_goals
     go_wp2_with fail
     refine (HI.out _ (HE.out.later HB1.out)).mono ?_;rintro e w6 ⟨rfl,hb6⟩;have hw:=Bt HB1.out hb6;go_wp2_with fail
     go_ret2
     exact ⟨rfl,hw⟩
 ·have hno:¬ nT n p q≤10^18:=Nat.not_le.2 (Y3 q1 p36 q12 (Nat.not_lt.1 fun h=>h1 (JM.2 h)));rw [J8 hno];rw [show K7 ((n^p:Nat):Int)= aD #[O ⟨#[]⟩,Z I 6] from by unfold K7;rw [Int.natAbs_natCast,if_neg h1]] at RH;clear h1 hn0 hno hn;unfold fO at *;generalize (⟨(Lib.itoa (n:Int)).toArray⟩:ByteArray)=tn at *;go_enter Tryz.func52,Tryz.ntmps52
  go_wp2_with fail
  obtain ⟨wx,EW,hz,X⟩:=Gc w #[Z I (p:Int),Z I (q:Int)] 107;rw [EW];clear EW;have HB1:=zh hz;clear hz;obtain ⟨bx,eb⟩:∃ y,w.heap.size=y:=⟨_,rfl⟩;rw [eb] at X ⊢;obtain ⟨cX,lX⟩:=X.cl;refine aO [(.pure,0),(.pure,2),(.pure,3),(.read,4),(.ext,1),(.ext,5),(.pure,6),(.pure,7),(.pure,8),(.fin,9),(.fin,10)] zk zk zR zP ?_;refine zW ?_;refine aL rfl rfl (fun we hbe J hJ=>?_);go_simp;have h1:Below wx.heap.size wx we:=aI;refine (HO.out _ (HP.out.later (Bt HB1.out h1))).mono ?_;rintro e w1 ⟨rfl,hb1⟩;refine hJ _ _ hb1 ?_;clear hJ J;have h2:=Bt h1 hb1;clear h1 hbe hb1;refine aL rfl rfl (fun we hbe J hJ=>?_);go_simp;have h3:Below w1.heap.size w1 we:=aI;refine (RH.out _ (HP.out.later (Bt HB1.out (Bt h2 h3)))).mono ?_;rintro e w2 ⟨rfl,hb2⟩;refine hJ _ _ hb2 ?_;clear hJ J;have h4:=Bt h2 (Bt h3 hb2);clear h3 h2 hbe hb2;refine zV ?_
  refine cZ [_,_] rfl (fun wf hbf=>?_);have h5:Below wx.heap.size wx wf:=Bt h4 aI;replace X:=X.bl h5;replace HB1:=zh (Bt HB1.out h5);clear h5 h4 hbf cX lX;obtain ⟨cX,lX⟩:=X.cl;have hw:=HB1.out;go_wp2_with fail
  go_ret2
  exact ⟨rfl,hw⟩
end Go.Proofs.power
namespace Go.Proofs.power
open Go Go.RowKit Go.SW Go.Num Go.Mem Go.Proofs Go.Dec Go.fG Go.Proofs.whole Go.Proofs.fB
def JK (a b:Int × Int):(Int × Int) × Int:=if a.2≠0 then ((0,0),a.2) else if b.2≠0 then ((0,0),b.2) else if jl a.1 b.1 then ((a.1,b.1),0) else ((0,0),6)
theorem Y6 (a b:Int × Int):Y7 a b=jg (JK a b):=by
 unfold Y7 JK jg
 by_cases h1:a.2=0<;>by_cases h2:b.2=0<;>cases h3:jl a.1 b.1<;>simp [h1,h2]
def Da (lo hi p q:Int):(Int × Int) × Int:=if jl lo hi=false then ((0,0),30) else if eok p q=false∨lo<0 then ((0,0),2) else JK (yR lo.toNat p.toNat q.toNat false) (yR hi.toNat p.toNat q.toNat true)
theorem Ny (lo hi p q:Int) (w:World) (ht:ko.Pow w) (he:Er w) :
  Calls Tryz.prog 24 #[aB #[Z I lo,Z I hi],Z I p,Z I q] w (fun e w'=>e= aj (jg (Da lo hi p q))∧Below w.heap.size w w'):=by
 have HP:=zh ht;have HE:=zh he;have HC:=zh (fun W=>kI lo hi W);have HV:=zh (fun W=>oP p q W);clear ht he;generalize hz0:Da lo hi p q=z at *;unfold Da at hz0;obtain ⟨⟨z1,z2⟩,z3⟩:=z;unfold jg;simp only;go_enter Tryz.func24,Tryz.ntmps24
 go_wp2_with fail
 obtain ⟨wx,EW,hz,X,R⟩:=Ud w #[Z I lo,Z I hi] 26 #[Z I 0,Z I 0] 26;rw [EW];clear EW;have HB:=zh hz;clear hz;obtain ⟨bx,eb⟩:∃ y,w.heap.size=y:=⟨_,rfl⟩;rw [eb] at X R ⊢;refine (HC.out _).mono ?_;rintro e w1 ⟨rfl,hb1⟩;replace X:=X.bl hb1;replace R:=R.bl hb1;replace HB:=zh (Bt HB.out hb1);clear hb1 HC;obtain ⟨cX,lX⟩:=X.cl;cases hk:jl lo hi
 ·rw [hk,if_pos rfl] at hz0;cases hz0
  have hx:=R.out;have cx:=hx.cell;have fx:=hx.free;have lx:=hx.lt;have hw:=HB.out;go_wp2_with fail
  refine bX rfl rfl bq Tryz.underlying26 rfl zk ?_;exact ⟨rfl,aI⟩
 ·rw [hk,if_neg zi] at hz0;go_wp2_with fail
  obtain ⟨wy,EW,hz,Y⟩:=Gc w1 #[Z I p,Z I q] 107;rw [EW];clear EW;replace HB:=zh (Bt HB.out hz);replace X:=X.bl hz;replace R:=R.bl hz;clear hz cX lX;obtain ⟨by',eb⟩:∃ y,w1.heap.size=y:=⟨_,rfl⟩;rw [eb] at Y ⊢;refine (HV.out _).mono ?_;rintro e w2 ⟨rfl,hb2⟩;replace HB:=zh (Bt HB.out hb2);replace X:=X.bl hb2;replace R:=R.bl hb2;replace Y:=Y.bl hb2;clear hb2 HV;obtain ⟨cX,lX⟩:=X.cl;obtain ⟨cY,lY⟩:=Y.cl;cases hv:eok p q
  ·rw [hv,if_pos (Or.inl rfl)] at hz0;cases hz0
   have hx:=R.out;have cx:=hx.cell;have fx:=hx.free;have lx:=hx.lt;have hw:=HB.out;go_wp2_with fail
   refine bX rfl rfl bq Tryz.underlying26 rfl zk ?_;exact ⟨rfl,aI⟩
  ·by_cases h0:lo<0
   ·have g:decide (lo<0)=true:=decide_eq_true h0;rw [if_pos (Or.inr h0)] at hz0;cases hz0
    have hx:=R.out;have cx:=hx.cell;have fx:=hx.free;have lx:=hx.lt;have hw:=HB.out;go_wp2_with fail
    refine bX rfl rfl bq Tryz.underlying26 rfl zk ?_;exact ⟨rfl,aI⟩
   ·have g:decide (lo<0)=false:=decide_eq_false h0;rw [hv,if_neg (by simp [h0])] at hz0;obtain ⟨hp1,aV0,hq1,hq12⟩:1≤p∧p≤36∧1≤q∧q≤12:=by simpa [eok] using hv
    obtain ⟨hk1,hk2,hk3⟩: -1000000000000000000≤lo∧lo≤hi∧hi≤1000000000000000000:=by simpa [jl] using hk
    have h18:(10:Nat)^18=1000000000000000000:=by decide
    have E1:=fun W (h:Below w2.heap.size w2 W)=>J7 lo.toNat p.toNat q.toNat false (by rw [h18];omega) zo zo zo zo W (HP.out.later (Bt HB.out h)) (HE.out.later (Bt HB.out h));have E2:=fun W (h:Below w2.heap.size w2 W)=>J7 hi.toNat p.toNat q.toNat true (by rw [h18];omega) zo zo zo zo W (HP.out.later (Bt HB.out h)) (HE.out.later (Bt HB.out h));simp only [Int.toNat_of_nonneg (show 0≤lo by omega),Int.toNat_of_nonneg (show 0≤hi by omega),Int.toNat_of_nonneg (show 0≤p by omega),Int.toNat_of_nonneg (show 0≤q by omega)] at E1 E2;have HO:=zh (OI lo hi (.func (.func 52) #[aB #[Z I p,Z I q]] #[]) 52 #[aB #[Z I p,Z I q]] #[] _ _ w2 rfl E1 E2 rfl (fun args W=>by rfl));rw [Y6,hz0] at HO;unfold jg at HO;clear hz0 E1 E2 h18 hp1 aV0 hq1 hq12 hk1 hk2 hk3 hv h0 hk;go_wp2_with fail
    refine HO.out.mono ?_;rintro e w3 ⟨rfl,hb3⟩;replace HB:=zh (Bt HB.out hb3);replace R:=R.bl hb3;clear hb3 HO X Y cX lX cY lY;have hx:=R.out;have cx:=hx.cell;have fx:=hx.free;have lx:=hx.lt;have hw:=HB.out;go_wp2_with fail
    refine bX rfl rfl bq Tryz.underlying26 rfl zk ?_;exact ⟨rfl,aI⟩
theorem KJ (lo hi q:Int) (w:World) (ht:ko.Pow w) (he:Er w) :
  Calls Tryz.prog 83 #[aB #[Z I lo,Z I hi],Z I q] w (fun e w'=>e= aj (jg (Da lo hi 1 q))∧Below w.heap.size w w'):=by
 have HP:=zh ht;have HE:=zh he;have H:=zh (fun W h1 h2=>Ny lo hi 1 q W h1 h2);clear ht he;generalize Da lo hi 1 q=z at *;obtain ⟨⟨z1,z2⟩,z3⟩:=z;unfold jg at *;simp only at *;go_enter Tryz.func83,Tryz.ntmps83
 go_wp2_with fail
 obtain ⟨wx,EW,hz,X,R⟩:=Ud w #[Z I lo,Z I hi] 26 #[Z I 0,Z I 0] 26;rw [EW];clear EW;have HB:=zh hz;clear hz;obtain ⟨bx,eb⟩:∃ y,w.heap.size=y:=⟨_,rfl⟩;rw [eb] at X R ⊢;refine (H.out _ (HP.out.later HB.out) (HE.out.later HB.out)).mono ?_;rintro e w1 ⟨rfl,hb1⟩;replace R:=R.bl hb1;replace HB:=zh (Bt HB.out hb1);clear hb1 X;have hx:=R.out;have cx:=hx.cell;have fx:=hx.free;have lx:=hx.lt;have hw:=HB.out;go_wp2_with fail
 refine bX rfl rfl bq Tryz.underlying26 rfl zk ?_;exact ⟨rfl,aI⟩
end Go.Proofs.power
namespace Go.Proofs.fB
open Go Go.RowKit Go.SW Go.Num Go.Mem Go.Proofs Go.Dec Go.fG
theorem J7 (n:Int) (s t:ByteArray) (w:World) (h1: -9223372036854775808≤n) (h2:n≤9223372036854775807) (ht:ko.Pow w) (he:lI n 1000000000000=(⟨s,t⟩,0)) :
  Calls Tryz.prog 47 #[Z I n] w (fun e w'=>e= aj (aD #[aB #[O s,O t],Z I 0])∧Below w.heap.size w w'):=by
 have H:=zh (fun W (h:ko.Pow W)=>dZ.uf n 1000000000000 h1 h2 zo zo W h);rw [he] at H;unfold Fr.res Fr.v at H;have HP:=zh ht;clear he ht h1 h2;go_enter Tryz.func47,Tryz.ntmps47
 go_wp2_with fail
 obtain ⟨wx,EW,hz,HR⟩:=Gc w #[O ⟨#[]⟩,O ⟨#[]⟩] 38;rw [EW];clear EW;refine (H.out _ (HP.out.later hz)).mono ?_;rintro e w1 ⟨rfl,hb⟩;have hr:=HR.out.later hb;have cr:=hr.cell;have fr:=hr.free;have hw:=Bt hz hb;go_wp2_with fail
 refine bX rfl rfl ((hr.set 0 _).set 1 _) Tryz.underlying38 rfl zk ?_;exact ⟨rfl,(hw.setCell (p:=⟨w.heap.size,0,none⟩) (aC _) _).setCell (p:=⟨w.heap.size,1,none⟩) (aC _) _⟩
theorem Xm (F:FuncId) (free:Array Value) (lo hi:Int) (q:Nat) (w:World) (hv:jl lo hi=true) (hq:aA w q #[Z I lo,Z I hi] 26)
  (h1:∀ W,Below w.heap.size w W→Calls Tryz.prog F free W (fun e w'=>e= aj (aD #[ak true,Z I 0])∧Below W.heap.size W w'))
  (hen:∀ args W,(callFunc F args).run Tryz.prog W= .ok (.enter F args) W) :
  Calls Tryz.prog 45 #[.func (.func F) #[] free,ah (some ⟨q,0,none⟩) 1 1] w (fun e w'=>e= aj (aD #[ak true,Z I 0])∧Below w.heap.size w w'):=by
 have HV:=zh (fun W=>hv ▸ oP lo hi W);have H1:=zh h1;have HQ:=zh hq;clear h1 hv hq;go_enter Tryz.func45,Tryz.ntmps45
 obtain ⟨wx,EWX⟩:∃ y,y=w:=⟨_,rfl⟩;subst EWX;go_wp2_with fail
 go_loopw [11] (fun iv wr=>∃ k:Nat,iv= Z I (k:Int)∧k≤1∧Below wx.heap.size wx wr) (fun iv _=>1 - (intOf iv).toNat)
 case atStart=>exact ⟨0,rfl,by omega,Below.refl _ _⟩
 case round =>
  obtain ⟨k,rfl,hk,hb⟩:=hrel
  rcases aH k 1 with hlt|hge
  ·obtain rfl:k=0:=by omega
   have hq:=HQ.out.later hb;have cq:=hq.cell;have lq:=hq.lt;go_wp2_with fail
   obtain ⟨wy,EW,hz,Y⟩:=Gc wr #[Z I lo,Z I hi] 26;rw [EW];clear EW;refine (HV.out _).mono ?_;rintro e w1 ⟨rfl,hb1⟩;have hw:=Bt hb (Bt hz hb1);clear hz hb1 Y cq lq hq;go_wp2_with fail
   go_roundw
   case rel=>exact ⟨1,by go_num,by omega,hw⟩
   case measure=>simp [intOf]<;>omega
  ·obtain rfl:k=1:=by omega
   go_wp2_with fail
   refine (H1.out _ hb).mono ?_;rintro e w1 ⟨rfl,hb1⟩;go_wp2_with fail
   go_ret2
   exact ⟨rfl,Bt hb hb1⟩
theorem ad5 (lo hi o1 o2:Int) (s t s1 t1 s2 t2:ByteArray) (b q:Nat) (w:World) (ho1:0≤o1) (ho2:o2≤0) (h:aA w b #[Z I lo,Z I hi] 26) (hq:aA w q #[O s,O t] 38)
  (NK:∀ W,Below w.heap.size w W→Calls Tryz.prog 47 #[Z I lo] W (fun e w'=>e= aj (aD #[aB #[O s1,O t1],Z I 0])∧Below W.heap.size W w'))
  (HE2:∀ W,Below w.heap.size w W→Calls Tryz.prog 47 #[Z I hi] W (fun e w'=>e= aj (aD #[aB #[O s2,O t2],Z I 0])∧Below W.heap.size W w'))
  (HC1:∀ W,Calls Tryz.prog 36 #[aB #[O s,O t],aB #[O s1,O t1]] W (fun e w'=>e= aj (aD #[Z I o1,Z I 0])∧Below W.heap.size W w'))
  (Ug:∀ W,Calls Tryz.prog 36 #[aB #[O s,O t],aB #[O s2,O t2]] W (fun e w'=>e= aj (aD #[Z I o2,Z I 0])∧Below W.heap.size W w')) :
  Calls Tryz.prog 46 #[ay (some ⟨b,0,none⟩),ay (some ⟨q,0,none⟩)] w (fun e w'=>e= aj (aD #[ak true,Z I 0])∧Below w.heap.size w w'):=by
 have d1:decide (0≤o1)=true:=decide_eq_true ho1;have d2:decide (o2≤0)=true:=decide_eq_true ho2;have K1:=zh NK;have K2:=zh HE2;have K3:=zh HC1;have K4:=zh Ug;have X:=zh h;have Y:=zh hq;clear NK HE2 HC1 Ug h hq ho1 ho2;go_enter Tryz.func46,Tryz.ntmps46
 have cX:=X.out.cell;have lX:=X.out.lt;go_wp2_with fail
 clear cX lX;refine (K1.out _ (Below.refl _ _)).mono ?_;rintro e w1 ⟨rfl,hb1⟩;have hx:=(X.out.later hb1).alloc (.cells #[O s1,O t1] 38);have cX:=hx.cell;have lX:=hx.lt;go_wp2_with fail
 clear cX lX hx;obtain ⟨w2,EW,hz,A1⟩:=Gc w1 #[O s1,O t1] 38;rw [EW];obtain ⟨q1,eq1⟩:∃ y,w1.heap.size=y:=⟨_,rfl⟩;rw [eq1] at A1 ⊢;have HB:=zh (Bt hb1 hz);clear EW eq1 hz hb1;refine (K2.out _ HB.out).mono ?_;rintro e w3 ⟨rfl,hb3⟩;replace HB:=zh (Bt HB.out hb3);replace A1:=zh (A1.out.later hb3);have hy:=(Y.out.later HB.out).alloc (.cells #[O s2,O t2] 38);have cY:=hy.cell;have lY:=hy.lt;have ha:=A1.out.alloc (.cells #[O s2,O t2] 38);have cA:=ha.cell;have lA:=ha.lt;go_wp2_with fail
 clear cY lY hy ha cA lA;obtain ⟨w4,EW,hz,A2⟩:=Gc w3 #[O s2,O t2] 38;rw [EW];obtain ⟨q2,eq2⟩:∃ y,w3.heap.size=y:=⟨_,rfl⟩;rw [eq2] at A2 ⊢;replace HB:=zh (Bt HB.out hz);clear EW eq2 hz hb3;refine (K3.out _).mono ?_;rintro e w5 ⟨rfl,hb5⟩;replace HB:=zh (Bt HB.out hb5);replace A2:=zh (A2.out.later hb5);have hy:=Y.out.later HB.out;have cY:=hy.cell;have lY:=hy.lt;have cA:=A2.out.cell;have lA:=A2.out.lt;go_wp2_with fail
 clear cY lY hy cA lA;refine (K4.out _).mono ?_;rintro e w6 ⟨rfl,hb6⟩;go_wp2_with fail
 go_ret2
 exact ⟨rfl,Bt HB.out hb6⟩
theorem az9 (lo hi o1 o2:Int) (s t s1 t1 s2 t2:ByteArray) (w:World) (hv:jl lo hi=true) (ho1:0≤o1) (ho2:o2≤0)
  (NK:∀ W,Below w.heap.size w W→Calls Tryz.prog 47 #[Z I lo] W (fun e w'=>e= aj (aD #[aB #[O s1,O t1],Z I 0])∧Below W.heap.size W w'))
  (HE2:∀ W,Below w.heap.size w W→Calls Tryz.prog 47 #[Z I hi] W (fun e w'=>e= aj (aD #[aB #[O s2,O t2],Z I 0])∧Below W.heap.size W w'))
  (HC1:∀ W,Calls Tryz.prog 36 #[aB #[O s,O t],aB #[O s1,O t1]] W (fun e w'=>e= aj (aD #[Z I o1,Z I 0])∧Below W.heap.size W w'))
  (Ug:∀ W,Calls Tryz.prog 36 #[aB #[O s,O t],aB #[O s2,O t2]] W (fun e w'=>e= aj (aD #[Z I o2,Z I 0])∧Below W.heap.size W w')) :
  Calls Tryz.prog 18 #[aB #[Z I lo,Z I hi],aB #[O s,O t]] w (fun e w'=>e= aj (aD #[ak true,Z I 0])∧Below w.heap.size w w'):=by
 have H:Hid (∀ W b c q,Below w.heap.size w W→aA W b #[Z I lo,Z I hi] 26→aA W c #[O s,O t] 38→aA W q #[Z I lo,Z I hi] 26→Calls Tryz.prog 45 #[.func (.func 46) #[] #[ay (some ⟨b,0,none⟩),ay (some ⟨c,0,none⟩)],ah (some ⟨q,0,none⟩) 1 1] W (fun e w'=>e= aj (aD #[ak true,Z I 0])∧Below W.heap.size W w')):=zh fun W b c q hW h1 h2 h3 =>
  Xm 46 #[ay (some ⟨b,0,none⟩),ay (some ⟨c,0,none⟩)] lo hi q W hv h3 (fun W' hW'=>ad5 lo hi o1 o2 s t s1 t1 s2 t2 b c W' ho1 ho2 (h1.later hW') (h2.later hW') (fun W2 h4=>NK W2 (Bt hW (Bt hW' h4))) (fun W2 h4=>HE2 W2 (Bt hW (Bt hW' h4))) HC1 Ug) (fun args W=>by rfl)
 clear NK HE2 HC1 Ug hv ho1 ho2;go_enter Tryz.func18,Tryz.ntmps18
 go_wp2_with fail
 obtain ⟨wx,EW,hz,X,R,dO⟩:=Uc w #[Z I lo,Z I hi] 26 #[O s,O t] 38 #[Z I lo,Z I hi] 26;rw [EW];clear EW;refine (H.out _ _ _ _ hz X.out R.out dO.out).mono ?_;rintro e w1 ⟨rfl,hb1⟩;clear H;go_wp2_with fail
 go_ret2
 exact ⟨rfl,Bt hz hb1⟩
def aa7 (a b:Int × Int):(Int × Int) × Int:=if b.1≤0∧0≤b.2 then ((0,0),7) else vM (fun x y up=>oq x 1000000000000 y up) a b
def MO (a b:Int × Int):(Int × Int) × Int:=if okB [a,b] then aa7 a b else ((0,0),30)
def U3 (b:Int × Int) (n d:Int):(Int × Int) × Int:=if n< -1000000000000∨1000000000000<n∨d<1∨1000000000000<d then ((0,0),2) else vM (fun x y up=>oq x y d up) b (n,n)
def vQ (b:Int × Int) (n d:Int):(Int × Int) × Int:=if okB [b] then U3 b n d else ((0,0),30)
def ptE (n:Int):(Int × Int) × Int:=if jl n n then ((n,n),0) else ((0,0),30)
theorem JO {lo hi:Int} (h:jl lo hi=true):lo.natAbs≤1000000000000000000∧hi.natAbs≤1000000000000000000∧lo≤hi:=by
 obtain ⟨h1,h2,h3⟩: -1000000000000000000≤lo∧lo≤hi∧hi≤1000000000000000000:=by simpa [jl] using h
 exact ⟨by omega,by omega,h2⟩
theorem QG {a:Int × Int} (h:jl a.1 a.2=true) (k:Nat):(QH a k).natAbs≤1000000000000000000:=by
 unfold QH;have:=JO h;split<;>omega
theorem YZ {a:Int × Int} (h:jl a.1 a.2=true) (k:Nat):(N9 a k).natAbs≤1000000000000000000:=by
 unfold N9;have:=JO h;split<;>omega
theorem ae1 (x y:Int) (up:Bool) (hx:x.natAbs≤1000000000000000000) (hy:y≠0) (hy2:y.natAbs≤1000000000000000000) (w:World) :
  Calls Tryz.prog 112 #[Z I x,Z I y,ak up] w (fun e w'=>e= aj (aD #[Z I (oq x 1000000000000 y up).1,ak (oq x 1000000000000 y up).2])∧Below w.heap.size w w'):=by
 have H:=zh (fun W=>EN x 1000000000000 y up hx zo hy hy2 W);generalize oq x 1000000000000 y up=z at *;obtain ⟨z1,z2⟩:=z;simp only at *;clear hx hy hy2;go_enter Tryz.func112,Tryz.ntmps112
 go_wp2_with fail
 refine (H.out _).mono ?_;rintro e w1 ⟨rfl,hb⟩;go_wp2_with fail
 go_ret2
 exact ⟨rfl,hb⟩
theorem ae2 (x y z t:Int) (h0:okB [(x,y),(z,t)]=true) (b c:Nat) (w:World) (h:aA w b #[Z I x,Z I y] 26) (k:aA w c #[Z I z,Z I t] 26) :
  Calls Tryz.prog 111 #[ay (some ⟨c,0,none⟩),ay (some ⟨b,0,none⟩)] w (fun e w'=>e= aj (jg (aa7 (x,y) (z,t)))∧Below w.heap.size w w'):=by
 have h0':jl x y=true∧jl z t=true:=by simpa [okB] using h0
 have ha:=QG (a:=(x,y)) h0'.1;have hc:=YZ (a:=(z,t)) h0'.2;obtain ⟨z1,z2,z3⟩:=JO h0'.2
 have H:Hid (¬ (z≤0∧0≤t)→∀ W,Calls Tryz.prog 55 #[aB #[Z I x,Z I y],aB #[Z I z,Z I t],.func (.func 112) #[] #[]] W (fun e w'=>e= aj (jg (vM (fun x y up=>oq x 1000000000000 y up) (x,y) (z,t)))∧Below W.heap.size W w')):=zh fun hn W =>
  yG (fun x y up=>oq x 1000000000000 y up) 112 #[] x y z t W (fun k up W' _=>ae1 _ _ up (ha k) (by unfold N9;split<;>simp only<;>omega) (hc k) W') (fun args W=>by rfl)
 have e:aa7 (x,y) (z,t)=if z≤0∧0≤t then ((0,0),7) else vM (fun x y up=>oq x 1000000000000 y up) (x,y) (z,t):=rfl
 rw [e];generalize vM (fun x y up=>oq x 1000000000000 y up) (x,y) (z,t)=m at *;clear h0 h0' ha hc z1 z2 z3 e;obtain ⟨⟨m1,m2⟩,m3⟩:=m;have HX:=zh h;have HY:=zh k;clear h k
 by_cases hn:z≤0∧0≤t
 ·rw [if_pos hn];obtain ⟨g1,g2⟩:=hn;unfold jg at *;simp only at *;clear H;obtain ⟨cx,lx,fx⟩:=HY.clf;go_enter Tryz.func111,Tryz.ntmps111
  go_wp2_with fail
  have hx:=aA.new w #[Z I 0,Z I 0] 26;refine bX rfl rfl bq Tryz.underlying26 rfl zk ?_;exact ⟨rfl,aI⟩
 ·rw [if_neg hn];replace H:=zh (H.out hn);unfold jg at *;simp only at *
  have g:decide (z≤0)=false∨(decide (z≤0)=true∧decide (0≤t)=false):=by
   by_cases g1:z≤0
   ·exact .inr ⟨decide_eq_true g1,decide_eq_false (fun g2=>hn ⟨g1,g2⟩)⟩
   ·exact .inl (decide_eq_false g1)
  clear hn;obtain ⟨cx,lx,fx⟩:=HX.clf;obtain ⟨cy,ly,fy⟩:=HY.clf
  rcases g with g1|⟨g1,g2⟩
  all_goals
   simp only [decide_eq_false_iff_not,decide_eq_true_eq] at *;go_enter Tryz.func111,Tryz.ntmps111
   go_wp2_with fail
   refine (H.out _).mono ?_;rintro e w1 ⟨rfl,hb1⟩;have hx:=aA.later (aA.new w #[Z I 0,Z I 0] 26) hb1;have cr:=hx.cell;have fr:=hx.free;have lr:=hx.lt;have hw:=Bt (show Below w.heap.size w (w.alloc (.cells #[Z I 0,Z I 0] 26)) from aI) hb1;go_wp2_with fail
   refine bX rfl rfl bq Tryz.underlying26 rfl zk ?_;exact ⟨rfl,aI⟩
theorem qX (x y z t:Int) (w:World):Calls Tryz.prog 59 #[aB #[Z I x,Z I y],aB #[Z I z,Z I t]] w (fun e w'=>e= aj (jg (MO (x,y) (z,t)))∧Below w.heap.size w w'):=by
 have H:Hid (∀ W b c d,aA W b #[Z I x,Z I y] 26→aA W c #[Z I z,Z I t] 26→aA W d #[Z I x,Z I y,Z I z,Z I t] 26→Calls Tryz.prog 53 #[.func (.func 111) #[] #[ay (some ⟨c,0,none⟩),ay (some ⟨b,0,none⟩)],ah (some ⟨d,0,none⟩) 2 2] W (fun e w'=>e= aj (jg (MO (x,y) (z,t)))∧Below W.heap.size W w')):=zh fun W b c d h1 h2 h3 =>
  uX 111 #[ay (some ⟨c,0,none⟩),ay (some ⟨b,0,none⟩)] _ _ _ _ W (La.two h3) (fun h W' hW'=>ae2 x y z t h b c W' (h1.later hW') (h2.later hW')) (fun args W=>by rfl)
 generalize MO (x,y) (z,t)=m at *;obtain ⟨⟨m1,m2⟩,m3⟩:=m;unfold jg at *;simp only at *;go_enter Tryz.func59,Tryz.ntmps59
 go_wp2_with fail
 obtain ⟨wx,EW,hz,X,Y,R,dO⟩:=al4 w #[Z I x,Z I y] 26 #[Z I z,Z I t] 26 #[Z I 0,Z I 0] 26 #[Z I x,Z I y,Z I z,Z I t] 26;rw [EW];clear EW;have HB:=zh hz;clear hz;refine (H.out _ _ _ _ X.out Y.out dO.out).mono ?_;rintro e w1 ⟨rfl,hb1⟩;replace R:=R.bl hb1;replace HB:=zh (Bt HB.out hb1);clear hb1 H;have hx:=R.out;have cx:=hx.cell;have fx:=hx.free;have lx:=hx.lt;have hw:=HB.out;go_wp2_with fail
 refine bX rfl rfl bq Tryz.underlying26 rfl zk ?_;exact ⟨rfl,aI⟩
theorem TN (x y d:Int) (up:Bool) (hx:x.natAbs≤1000000000000000000) (hy:y.natAbs≤1000000000000000000) (hd:d≠0) (hd2:d.natAbs≤1000000000000000000) (c:Nat) (w:World) (h:aA w c #[Z I d] 3) :
  Calls Tryz.prog 97 #[Z I x,Z I y,ak up,ay (some ⟨c,0,none⟩)] w (fun e w'=>e= aj (aD #[Z I (oq x y d up).1,ak (oq x y d up).2])∧Below w.heap.size w w'):=by
 have H:=zh (fun W=>EN x y d up hx hy hd hd2 W);generalize oq x y d up=z at *;obtain ⟨z1,z2⟩:=z;have cc:=h.cell;have lc:=h.lt;simp only at *;clear hx hy hd hd2 h;go_enter Tryz.func97,Tryz.ntmps97
 go_wp2_with fail
 refine (H.out _).mono ?_;rintro e w1 ⟨rfl,hb⟩;go_wp2_with fail
 go_ret2
 exact ⟨rfl,hb⟩
theorem TP (x y n d:Int) (h0:okB [(x,y)]=true) (bn bd b:Nat) (w:World) (hn:aA w bn #[Z I n] 3) (hd:aA w bd #[Z I d] 3) (h:aA w b #[Z I x,Z I y] 26) :
  Calls Tryz.prog 96 #[ay (some ⟨bn,0,none⟩),ay (some ⟨bd,0,none⟩),ay (some ⟨b,0,none⟩)] w (fun e w'=>e= aj (jg (U3 (x,y) n d))∧Below w.heap.size w w'):=by
 have h0':jl x y=true:=by simpa [okB] using h0
 have ha:=QG (a:=(x,y)) h0'
 have H:Hid (¬ (n< -1000000000000∨1000000000000<n∨d<1∨1000000000000<d)→∀ W,Below w.heap.size w W→Calls Tryz.prog 55 #[aB #[Z I x,Z I y],aB #[Z I n,Z I n],.func (.func 97) #[] #[ay (some ⟨bd,0,none⟩)]] W (fun e w'=>e= aj (jg (vM (fun x y up=>oq x y d up) (x,y) (n,n)))∧Below W.heap.size W w')):=zh fun hg W hW =>
  yG (fun x y up=>oq x y d up) 97 #[ay (some ⟨bd,0,none⟩)] x y n n W (fun k up W' hW'=>TN _ _ d up (ha k) (by unfold N9;split<;>simp only<;>omega) zo zo bd W' ((hd.later hW).later hW')) (fun args W=>by rfl)
 have e:U3 (x,y) n d=if n< -1000000000000∨1000000000000<n∨d<1∨1000000000000<d then ((0,0),2) else vM (fun x y up=>oq x y d up) (x,y) (n,n):=rfl
 rw [e];generalize vM (fun x y up=>oq x y d up) (x,y) (n,n)=m at *;obtain ⟨⟨m1,m2⟩,m3⟩:=m;have HX:=zh h;have HN:=zh hn;have HD:=zh hd;clear h0 h0' ha e h hn hd;obtain ⟨cn,ln,fn⟩:=HN.clf;obtain ⟨cd,ld,fd⟩:=HD.clf
 by_cases hg:n< -1000000000000∨1000000000000<n∨d<1∨1000000000000<d
 ·rw [if_pos hg];clear H;have g:n< -1000000000000∨(¬ n< -1000000000000∧1000000000000<n)∨(¬ n< -1000000000000∧¬ 1000000000000<n∧d<1)∨(¬ n< -1000000000000∧¬ 1000000000000<n∧¬ d<1∧1000000000000<d):=by omega
  clear hg;unfold jg;simp only
  rcases g with g1|⟨g1,g2⟩|⟨g1,g2,g3⟩|⟨g1,g2,g3,g4⟩
  all_goals
   go_enter Tryz.func96,Tryz.ntmps96
   go_wp2_with fail
   have hx:=aA.new w #[Z I 0,Z I 0] 26;refine bX rfl rfl bq Tryz.underlying26 rfl zk ?_;exact ⟨rfl,aI⟩
 ·rw [if_neg hg];replace H:=zh (H.out hg);have g1:¬ n< -1000000000000:=by omega
  have g2:¬ 1000000000000<n:=by omega
  have g3:¬ d<1:=by omega
  have g4:¬ 1000000000000<d:=by omega
  clear hg;unfold jg at *;simp only at *;obtain ⟨cx,lx,fx⟩:=HX.clf;go_enter Tryz.func96,Tryz.ntmps96
  go_wp2_with fail
  refine (H.out _ aI).mono ?_;rintro e w1 ⟨rfl,hb1⟩;have hx:=aA.later (aA.new w #[Z I 0,Z I 0] 26) hb1;have cr:=hx.cell;have fr:=hx.free;have lr:=hx.lt;have hw:=Bt (show Below w.heap.size w (w.alloc (.cells #[Z I 0,Z I 0] 26)) from aI) hb1;go_wp2_with fail
  refine bX rfl rfl bq Tryz.underlying26 rfl zk ?_;exact ⟨rfl,aI⟩
theorem Xz (x y n d:Int) (w:World):Calls Tryz.prog 43 #[aB #[Z I x,Z I y],Z I n,Z I d] w (fun e w'=>e= aj (jg (vQ (x,y) n d))∧Below w.heap.size w w'):=by
 have H:Hid (∀ W bn bd b c,aA W bn #[Z I n] 3→aA W bd #[Z I d] 3→aA W b #[Z I x,Z I y] 26→aA W c #[Z I x,Z I y] 26→Calls Tryz.prog 53 #[.func (.func 96) #[] #[ay (some ⟨bn,0,none⟩),ay (some ⟨bd,0,none⟩),ay (some ⟨b,0,none⟩)],ah (some ⟨c,0,none⟩) 1 1] W (fun e w'=>e= aj (jg (vQ (x,y) n d))∧Below W.heap.size W w')):=zh fun W bn bd b c h1 h2 h3 h4 =>
  uX 96 #[ay (some ⟨bn,0,none⟩),ay (some ⟨bd,0,none⟩),ay (some ⟨b,0,none⟩)] _ _ _ _ W (La.one h4) (fun h W' hW'=>TP x y n d h bn bd b W' (h1.later hW') (h2.later hW') (h3.later hW')) (fun args W=>by rfl)
 generalize vQ (x,y) n d=z at *;obtain ⟨⟨z1,z2⟩,z3⟩:=z;unfold jg at *;simp only at *;go_enter Tryz.func43,Tryz.ntmps43
 go_wp2_with fail
 obtain ⟨wx,EW,hz,X,N,D,R,dO⟩:=aM9 w #[Z I x,Z I y] 26 #[Z I n] 3 #[Z I d] 3 #[Z I 0,Z I 0] 26 #[Z I x,Z I y] 26;rw [EW];clear EW;have HB:=zh hz;clear hz;refine (H.out _ _ _ _ _ N.out D.out X.out dO.out).mono ?_;rintro e w1 ⟨rfl,hb1⟩;replace R:=R.bl hb1;replace HB:=zh (Bt HB.out hb1);clear hb1 H;have hx:=R.out;have cx:=hx.cell;have fx:=hx.free;have lx:=hx.lt;have hw:=HB.out;go_wp2_with fail
 refine bX rfl rfl bq Tryz.underlying26 rfl zk ?_;exact ⟨rfl,aI⟩
theorem XB (n:Int) (w:World):Calls Tryz.prog 58 #[Z I n] w (fun e w'=>e= aj (jg (ptE n))∧Below w.heap.size w w'):=by
 have H:Hid (∀ W,Calls Tryz.prog 26 #[Z I n,Z I n] W (fun e w'=>e= aj (jg (ptE n))∧Below W.heap.size W w')):=zh fun W=>by
  have h:=uf n n W;unfold ptE jg
  revert h
  cases jl n n<;>exact fun h=>h
 generalize ptE n=z at *;obtain ⟨⟨z1,z2⟩,z3⟩:=z;unfold jg at *;simp only at *;go_enter Tryz.func58,Tryz.ntmps58
 go_wp2_with fail
 obtain ⟨wx,EW,hz,R⟩:=Gc w #[Z I 0,Z I 0] 26;rw [EW];clear EW;have HB:=zh hz;clear hz;refine (H.out _).mono ?_;rintro e w1 ⟨rfl,hb1⟩;replace R:=R.bl hb1;replace HB:=zh (Bt HB.out hb1);clear hb1 H;have hx:=R.out;have cx:=hx.cell;have fx:=hx.free;have lx:=hx.lt;have hw:=HB.out;go_wp2_with fail
 refine bX rfl rfl bq Tryz.underlying26 rfl zk ?_;exact ⟨rfl,aI⟩
end Go.Proofs.fB
namespace Go.Proofs.dZ
open Go Go.RowKit Go.SW Go.Num Go.Mem Go.Proofs Go.Dec Go.fG
theorem Y2 (p:Rat) (h:0≤p) (n:Nat):((p^n).num=((p.num.natAbs^n:Nat):Int))∧(p^n).den=p.den^n:=by
 have h0:0≤p.num:=by
  rw [Rat.num_nonneg];exact h
 refine ⟨?_,Rat.den_pow p n⟩;rw [Rat.num_pow,Int.natCast_pow,Int.natAbs_of_nonneg h0]
theorem BG (p:Rat) (n:Nat) (hp:jk p=true) (h0:0≤p) (n40:n≤40) (w:World) (ht:ko.Pow w) :
  Calls Tryz.prog 145 #[(Fr.of p).v,Z I (n:Int)] w (fun e w'=>e= aj (Fr.res (wr (p^n)))∧Below w.heap.size w w'):=by
 obtain ⟨e1,e2⟩:=Y2 p h0 n
 have hn0:0≤p.num:=by
  rw [Rat.num_nonneg];exact h0
 have hq:=je hp;have HC:=zh (fun W=>mE (Fr.of p) W);unfold Dk at HC;rw [hq] at HC;obtain ⟨o1,o2⟩:ou p.num.natAbs=true∧ou p.den=true:=by simpa [jk] using hp
 have H1:=zh (fun W h=>whole.BG p.num.natAbs n o1 n40 W h);have H2:=zh (fun W h=>whole.BG p.den n o2 n40 W h);have HP:=zh ht
 have ev:(Fr.of p).v= aB #[fO ((p.num.natAbs:Nat):Int),fO ((p.den:Nat):Int)]:=by
  rw [Int.natAbs_of_nonneg hn0];rfl
 have er:Fr.res (wr (p^n))=if ou (p.num.natAbs^n)=true then if ou (p.den^n)=true then aD #[aB #[fO ((p.num.natAbs^n:Nat):Int),fO ((p.den^n:Nat):Int)],Z I 0] else aD #[aB #[O ⟨#[]⟩,O ⟨#[]⟩],Z I 6] else aD #[aB #[O ⟨#[]⟩,O ⟨#[]⟩],Z I 6]:=by
  have eo:jk (p^n)=(ou (p.num.natAbs^n)&&ou (p.den^n)):=by
   unfold jk;rw [e1,e2,Int.natAbs_natCast]
  by_cases k1:ou (p.num.natAbs^n)=true
  ·rw [if_pos k1]
   by_cases k2:ou (p.den^n)=true
   ·rw [if_pos k2,Uk (by rw [eo,k1,k2];rfl),e1,e2]
   ·rw [if_neg k2,vJ (by rw [eo,k1];simpa using k2)]
  ·rw [if_neg k1,vJ (by rw [eo];simp [k1])]
 rw [ev] at HC ⊢;rw [er];unfold whole.K7 at H1 H2;simp only [Int.natAbs_natCast] at H1 H2;clear e1 e2 hn0 hq o1 o2 ht ev er hp h0;simp only [Option.isSome_some,if_true] at HC;obtain ⟨oa,Ea⟩:∃ y,ou (p.num.natAbs^n)=y:=⟨_,rfl⟩;obtain ⟨ob,Eb⟩:∃ y,ou (p.den^n)=y:=⟨_,rfl⟩;simp only [Ea] at H1 ⊢;simp only [Eb] at H2 ⊢;clear Ea Eb;generalize p.num.natAbs^n=an at *;generalize p.den^n=bn at *;generalize p.num.natAbs=a at *;generalize p.den=b at *;unfold fO at *;generalize (⟨(Lib.itoa (a:Int)).toArray⟩:ByteArray)=ta at *;generalize (⟨(Lib.itoa (b:Int)).toArray⟩:ByteArray)=tb at *;generalize (⟨(Lib.itoa (an:Int)).toArray⟩:ByteArray)=tan at *;generalize (⟨(Lib.itoa (bn:Int)).toArray⟩:ByteArray)=tbn at *;go_enter Tryz.func145,Tryz.ntmps145
 go_wp2_with fail
 obtain ⟨wx,EW,hz,X,R⟩:=Ud w #[O ta,O tb] 38 #[O ⟨#[]⟩,O ⟨#[]⟩] 38;rw [EW];clear EW;have HB:=zh hz;clear hz;obtain ⟨bx,eb⟩:∃ y,w.heap.size=y:=⟨_,rfl⟩;rw [eb] at X R ⊢;refine (HC.out _).mono ?_;rintro e w1 ⟨rfl,hb1⟩;replace X:=X.bl hb1;replace R:=R.bl hb1;replace HB:=zh (Bt HB.out hb1);clear hb1 HC;obtain ⟨cX,lX⟩:=X.cl;go_wp2_with fail
 refine (H1.out _ (HP.out.later HB.out)).mono ?_;rintro e w2 ⟨rfl,hb2⟩;replace X:=X.bl hb2;replace R:=R.bl hb2;replace HB:=zh (Bt HB.out hb2);clear hb2 H1 cX lX;obtain ⟨cX,lX⟩:=X.cl
 by_cases k1:oa=true
 ·simp only [if_pos k1];go_wp2_with fail
  refine (H2.out _ (HP.out.later HB.out)).mono ?_;rintro e w3 ⟨rfl,hb3⟩;replace R:=R.bl hb3;replace HB:=zh (Bt HB.out hb3);clear hb3 H2 cX lX X;have hx:=R.out;have cx:=hx.cell;have fx:=hx.free;have lx:=hx.lt;have hw:Below w.heap.size w _:=HB.out;rw [eb] at hw
  by_cases k2:ob=true
  ·simp only [if_pos k2];go_wp2_with fail
   refine bX rfl rfl bq Tryz.underlying38 rfl zk ?_;exact ⟨rfl,aI⟩
  ·simp only [if_neg k2];go_wp2_with fail
   refine bX rfl rfl bq Tryz.underlying38 rfl zk ?_;exact ⟨rfl,aI⟩
 ·simp only [if_neg k1];have hx:=R.out;have cx:=hx.cell;have fx:=hx.free;have lx:=hx.lt;have hw:Below w.heap.size w _:=HB.out;rw [eb] at hw;go_wp2_with fail
  refine bX rfl rfl bq Tryz.underlying38 rfl zk ?_;exact ⟨rfl,aI⟩
end Go.Proofs.dZ
namespace Go.Proofs.power
open Go Go.RowKit Go.SW Go.Num Go.Mem Go.Proofs Go.Proofs.fB
end Go.Proofs.power
namespace Go.Proofs.fE
open Go Go.Num Go.fG Go.Proofs.fB Go.Proofs.aS
theorem kE (q:Rat):flr q=q.floor:=(Rat.floor_def q).symm
theorem tC (a b:Rat): -(a / b)= -a / b:=by rw [Rat.div_def,Rat.div_def,Rat.neg_mul]
theorem nJ (n:Int) {d:Int} (hd:0<d):((n:Rat) / (d:Rat)).floor=n / d:=by
 have hd':(0:Rat)<(d:Rat):=by exact_mod_cast hd
 have key:∀ x:Int,x≤((n:Rat) / (d:Rat)).floor↔x≤n / d:=fun x=>by
  rw [Rat.le_floor_iff,Int.le_ediv_iff_mul_le hd];have e:(n:Rat) / (d:Rat)*(d:Rat)=(n:Rat):=Rat.div_mul_cancel (fun h=>by rw [h] at hd';exact absurd hd' zd)
  constructor
  ·intro h;have:=Rat.mul_le_mul_of_nonneg_right h (Rat.le_of_lt hd');rw [e] at this
   exact_mod_cast this
  ·intro h;refine Rat.le_of_mul_le_mul_right (c:=(d:Rat)) ?_ hd';rw [e]
   exact_mod_cast h
 exact Int.le_antisymm ((key _).1 (Int.le_refl _)) ((key _).2 (Int.le_refl _))
theorem uh:(0:Rat)<((1000000000000:Int):Rat):=by decide+kernel
theorem ae0:((1000000000000:Int):Rat)≠0:=by decide+kernel
theorem Cm (n:Int):un n*((1000000000000:Int):Rat)=(n:Rat):=by
 have:=ae0;unfold un;generalize ((1000000000000:Int):Rat)=E at *
 grind
theorem Ql (x y:Int):un x*un y*((1000000000000:Int):Rat)=((x*y:Int):Rat) / ((1000000000000:Int):Rat):=by
 have:=ae0;unfold un;rw [Rat.intCast_mul];generalize ((1000000000000:Int):Rat)=E at *
 grind
theorem Js (q:Rat):iM q q=jK (q9 (q.num*1000000000000) q.den false) (q9 (q.num*1000000000000) q.den true):=by
 have hd:(0:Int)<(q.den:Int):=by have:=q.den_pos;omega
 have hd0:((q.den:Int):Rat)≠0:=by
  have:(q.den:Int)≠0:=by omega
  exact_mod_cast this
 have e:q*((1000000000000:Int):Rat)=((q.num*1000000000000:Int):Rat) / ((q.den:Int):Rat):=by
  rw [Rat.intCast_mul];have h:=uI q;generalize ((1000000000000:Int):Rat)=E at *;generalize (q.num:Rat)=n at *;generalize ((q.den:Int):Rat)=d at *;rw [h]
  grind
 have e2: -(q*((1000000000000:Int):Rat))=((-(q.num*1000000000000):Int):Rat) / ((q.den:Int):Rat):=by
  rw [e,Rat.intCast_neg,tC]
 unfold iM;rw [kE,kE,e2,e,nJ _ hd,nJ _ hd];rfl
def jf (m:Rat):List Rat→Rat
 | []=>m
 | x::l=>jf (if x<m then x else m) l
def fU (m:Rat):List Rat→Rat
 | []=>m
 | x::l=>fU (if m<x then x else m) l
theorem VQ (p q r s:Rat):(jf p [q,r,s]=p∨jf p [q,r,s]=q∨jf p [q,r,s]=r∨jf p [q,r,s]=s)∧jf p [q,r,s]≤p∧jf p [q,r,s]≤q∧jf p [q,r,s]≤r∧jf p [q,r,s]≤s:=by
 unfold jf jf jf jf
 grind
theorem MB (p q r s:Rat):(fU p [q,r,s]=p∨fU p [q,r,s]=q∨fU p [q,r,s]=r∨fU p [q,r,s]=s)∧p≤fU p [q,r,s]∧q≤fU p [q,r,s]∧r≤fU p [q,r,s]∧s≤fU p [q,r,s]:=by
 unfold fU fU fU fU
 grind
theorem wX {a b:Rat} (h:a≤b):(a*((1000000000000:Int):Rat)).floor≤(b*((1000000000000:Int):Rat)).floor:=Rat.floor_monotone (Rat.mul_le_mul_of_nonneg_right h (Rat.le_of_lt uh))
theorem wY {a b:Rat} (h:a≤b): -((-(a*((1000000000000:Int):Rat))).floor)≤ -((-(b*((1000000000000:Int):Rat))).floor):=by
 have h2:=Rat.floor_monotone (Rat.neg_le_neg (Rat.mul_le_mul_of_nonneg_right h (Rat.le_of_lt uh)));omega
theorem Jz (n:Int) {d:Nat} (hd:0<d):q9 n d false≤q9 n d true:=by
 unfold q9;simp only [cK,if_false,if_true];have h1:=Int.mul_ediv_self_le (x:=n) (k:=(d:Int)) zo;have h2:=Int.mul_ediv_self_le (x:= -n) (k:=(d:Int)) zo;have h3:(d:Int)*(n / d)≤(d:Int)*(-(-n / d)):=by rw [Int.mul_neg];omega
 exact Int.le_of_mul_le_mul_left h3 zo
theorem Iy (x y:Int):(un x*un y*((1000000000000:Int):Rat)).floor=q9 (x*y) 1000000000000 false:=by rw [Ql,nJ _ zo];rfl
theorem QF (x y:Int): -((-(un x*un y*((1000000000000:Int):Rat))).floor)=q9 (x*y) 1000000000000 true:=by
 rw [Ql,tC,← Rat.intCast_neg,nJ _ zo];rfl
theorem rE (x y:Int) (up:Bool):((mJ x y 1000000000000 up).2=true→(mJ x y 1000000000000 up).1=q9 (x*y) 1000000000000 up∧(q9 (x*y) 1000000000000 up).natAbs≤1000000000000000000)∧((mJ x y 1000000000000 up).2=false→1000000000000000000<(q9 (x*y) 1000000000000 up).natAbs):=by
 by_cases h:(q9 (x*y) 1000000000000 up).natAbs≤1000000000000000000
 ·rw [show mJ x y 1000000000000 up=(q9 (x*y) 1000000000000 up,true) from if_pos h];exact ⟨fun _=>⟨rfl,h⟩,fun h=>by cases h⟩
 ·rw [show mJ x y 1000000000000 up=(0,false) from if_neg h];exact ⟨fun h=>(by cases h),fun _=>by omega⟩
theorem RZ (a b:Int × Int):iM (jf (un a.1*un b.1) [un a.1*un b.2,un a.2*un b.1,un a.2*un b.2]) (fU (un a.1*un b.1) [un a.1*un b.2,un a.2*un b.1,un a.2*un b.2])=Sc a b:=by
 obtain ⟨h1,h2,h3,h4,h5⟩:=VQ (un a.1*un b.1) (un a.1*un b.2) (un a.2*un b.1) (un a.2*un b.2);obtain ⟨g1,g2,g3,g4,g5⟩:=MB (un a.1*un b.1) (un a.1*un b.2) (un a.2*un b.1) (un a.2*un b.2);generalize jf (un a.1*un b.1) [un a.1*un b.2,un a.2*un b.1,un a.2*un b.2]=lo at *;generalize fU (un a.1*un b.1) [un a.1*un b.2,un a.2*un b.1,un a.2*un b.2]=hi at *;replace h2:=wX h2;replace h3:=wX h3;replace h4:=wX h4;replace h5:=wX h5;replace g2:=wY g2;replace g3:=wY g3;replace g4:=wY g4;replace g5:=wY g5
 have h6:(lo*((1000000000000:Int):Rat)).floor=q9 (a.1*b.1) 1000000000000 false∨(lo*((1000000000000:Int):Rat)).floor=q9 (a.1*b.2) 1000000000000 false∨(lo*((1000000000000:Int):Rat)).floor=q9 (a.2*b.1) 1000000000000 false∨(lo*((1000000000000:Int):Rat)).floor=q9 (a.2*b.2) 1000000000000 false:=by
  rcases h1 with rfl|rfl|rfl|rfl<;>simp only [Iy,true_or,or_true]
 have g6: -((-(hi*((1000000000000:Int):Rat))).floor)=q9 (a.1*b.1) 1000000000000 true∨ -((-(hi*((1000000000000:Int):Rat))).floor)=q9 (a.1*b.2) 1000000000000 true∨ -((-(hi*((1000000000000:Int):Rat))).floor)=q9 (a.2*b.1) 1000000000000 true∨ -((-(hi*((1000000000000:Int):Rat))).floor)=q9 (a.2*b.2) 1000000000000 true:=by
  rcases g1 with rfl|rfl|rfl|rfl<;>simp only [QF,true_or,or_true]
 rw [Iy] at h2 h3 h4 h5;rw [QF] at g2 g3 g4 g5;unfold iM;rw [kE,kE];generalize (lo*((1000000000000:Int):Rat)).floor=L at *;generalize -((-(hi*((1000000000000:Int):Rat))).floor)=H at *;have r1:=Jz (a.1*b.1) (d:=1000000000000) zo;have r2:=Jz (a.1*b.2) (d:=1000000000000) zo;have r3:=Jz (a.2*b.1) (d:=1000000000000) zo;have r4:=Jz (a.2*b.2) (d:=1000000000000) zo;have e0:QV a b 0=mJ a.1 b.1 1000000000000 false:=rfl;have e1:QV a b 1=mJ a.1 b.2 1000000000000 false:=rfl;have e2:QV a b 2=mJ a.2 b.1 1000000000000 false:=rfl;have e3:QV a b 3=mJ a.2 b.2 1000000000000 false:=rfl;have d0:Bo a b 0=mJ a.1 b.1 1000000000000 true:=rfl;have d1:Bo a b 1=mJ a.1 b.2 1000000000000 true:=rfl;have d2:Bo a b 2=mJ a.2 b.1 1000000000000 true:=rfl;have d3:Bo a b 3=mJ a.2 b.2 1000000000000 true:=rfl;have q0:=rE a.1 b.1 false
 have q1:=rE a.1 b.2 false;have q2:=rE a.2 b.1 false;have q3:=rE a.2 b.2 false;have p0:=rE a.1 b.1 true;have p1:=rE a.1 b.2 true;have p2:=rE a.2 b.1 true;have p3:=rE a.2 b.2 true
 have fe:av0 a b=((QV a b 0).2&&(Bo a b 0).2&&((QV a b 1).2&&(Bo a b 1).2)&&((QV a b 2).2&&(Bo a b 2).2)&&((QV a b 3).2&&(Bo a b 3).2)):=by
  unfold av0;simp [dB,List.range.loop,Bool.and_assoc]
 unfold Sc;rw [fe,e0,e1,e2,e3,d0,d1,d2,d3];generalize q9 (a.1*b.1) 1000000000000 false=l0 at *;generalize q9 (a.1*b.2) 1000000000000 false=l1 at *;generalize q9 (a.2*b.1) 1000000000000 false=l2 at *;generalize q9 (a.2*b.2) 1000000000000 false=l3 at *;generalize q9 (a.1*b.1) 1000000000000 true=u0 at *;generalize q9 (a.1*b.2) 1000000000000 true=u1 at *;generalize q9 (a.2*b.1) 1000000000000 true=u2 at *;generalize q9 (a.2*b.2) 1000000000000 true=u3 at *;clear e0 e1 e2 e3 d0 d1 d2 d3 fe h1 g1;generalize mJ a.1 b.1 1000000000000 false=A0 at *;generalize mJ a.1 b.2 1000000000000 false=A1 at *;generalize mJ a.2 b.1 1000000000000 false=A2 at *;generalize mJ a.2 b.2 1000000000000 false=A3 at *;generalize mJ a.1 b.1 1000000000000 true=B0 at *;generalize mJ a.1 b.2 1000000000000 true=B1 at *;generalize mJ a.2 b.1 1000000000000 true=B2 at *
 generalize mJ a.2 b.2 1000000000000 true=B3 at *;obtain ⟨x0,y0⟩:=A0;obtain ⟨x1,y1⟩:=A1;obtain ⟨x2,y2⟩:=A2;obtain ⟨x3,y3⟩:=A3;obtain ⟨s0,t0⟩:=B0;obtain ⟨s1,t1⟩:=B1;obtain ⟨s2,t2⟩:=B2;obtain ⟨s3,t3⟩:=B3;simp only at q0 q1 q2 q3 p0 p1 p2 p3 ⊢
 by_cases hf:(y0&&t0&&(y1&&t1)&&(y2&&t2)&&(y3&&t3))=true
 ·rw [if_pos hf];simp only [aF] at hf;obtain ⟨⟨⟨⟨f1,f2⟩,f3,f4⟩,f5,f6⟩,f7,f8⟩:=hf;obtain ⟨rfl, -⟩:=q0.1 f1;obtain ⟨rfl, -⟩:=q1.1 f3;obtain ⟨rfl, -⟩:=q2.1 f5;obtain ⟨rfl, -⟩:=q3.1 f7;obtain ⟨rfl, -⟩:=p0.1 f2;obtain ⟨rfl, -⟩:=p1.1 f4;obtain ⟨rfl, -⟩:=p2.1 f6;obtain ⟨rfl, -⟩:=p3.1 f8
  have m1:L=[x0,x1,x2,x3].foldl min x0:=by
   simp only [List.foldl];omega
  have m2:H=[s0,s1,s2,s3].foldl max s0:=by
   simp only [List.foldl];omega
  rw [m1,m2]
 ·rw [if_neg hf]
  have hb:jl L H=false:=by
   refine Xt ?_
   have:y0=false∨t0=false∨y1=false∨t1=false∨y2=false∨t2=false∨y3=false∨t3=false:=by
    revert hf
    cases y0<;>cases t0<;>cases y1<;>cases t1<;>cases y2<;>cases t2<;>cases y3<;>cases t3<;>simp
   rcases this with h|h|h|h|h|h|h|h
   ·have:=q0.2 h;omega
   ·have:=p0.2 h;omega
   ·have:=q1.2 h;omega
   ·have:=p1.2 h;omega
   ·have:=q2.2 h;omega
   ·have:=p2.2 h;omega
   ·have:=q3.2 h;omega
   ·have:=p3.2 h;omega
  unfold jK;rw [hb];rfl
end Go.Proofs.fE
namespace Go.Proofs.matrix
open Go Go.Num Go.fG Go.Proofs.fB Go.Proofs.fE Go.Proofs.aS
theorem AX (z:Int) (q:Rat):un z≤q↔(z:Rat)≤q*((1000000000000:Int):Rat):=by
 rw [← Cm z]
 constructor
 ·exact fun h=>Rat.mul_le_mul_of_nonneg_right h (Rat.le_of_lt uh)
 ·exact fun h=>Rat.le_of_mul_le_mul_right h uh
theorem SS (z:Int) (q:Rat):q≤un z↔q*((1000000000000:Int):Rat)≤(z:Rat):=by
 rw [← Cm z]
 constructor
 ·exact fun h=>Rat.mul_le_mul_of_nonneg_right h (Rat.le_of_lt uh)
 ·exact fun h=>Rat.le_of_mul_le_mul_right h uh
theorem BM {a b:Int}:un a≤un b↔a≤b:=by rw [AX,Cm,Rat.intCast_le_intCast]
def In (b:Int × Int) (q:Rat) (M:Int):Prop:=un b.1≤q∧q≤un b.2∧ -M≤b.1∧b.2≤M
theorem In.le {b:Int × Int} {q:Rat} {M:Int} (h:In b q M):b.1≤b.2:=BM.1 (Rat.le_trans h.1 h.2.1)
theorem mP {x y:Int} (h: -1000000000000000000≤x) (h2:x≤y) (h3:y≤1000000000000000000):jl x y=true:=by
 unfold jl;rw [decide_eq_true h,decide_eq_true h2,decide_eq_true h3];rfl
theorem In.jl {b:Int × Int} {q:Rat} {M:Int} (h:In b q M) (hM:M≤1000000000000000000):jl b.1 b.2=true :=
 mP (by have:=h.2.2.1;omega) h.le (by have:=h.2.2.2;omega)
end Go.Proofs.matrix
namespace Go.Proofs.fE
open Go Go.RowKit Go.SW Go.Num Go.Mem Go.Proofs Go.fG Go.Proofs.fB Go.Proofs.aS
def Ce (q:Rat):Int:=(q*((1000000000000:Int):Rat)).floor
def BL (q:Rat):Int:= -((-(q*((1000000000000:Int):Rat))).floor)
theorem WR (x:Rat):x.floor≤ -((-x).floor):=by
 have h1:=Rat.floor_le x;have h2:=Rat.floor_le (-x)
 have h3:((x.floor:Int):Rat)≤((-((-x).floor):Int):Rat):=by
  rw [Rat.intCast_neg]
  grind
 exact Rat.intCast_le_intCast.1 h3
theorem Ri (q:Rat):Ce q≤BL q:=WR _
def J9 (z:Int):Int × Bool:=if z.natAbs≤1000000000000000000 then (z,true) else (0,false)
theorem o9 {A:Int × Bool} {l:Int} (h:A=J9 l):(A.2=true→A.1=l∧l.natAbs≤1000000000000000000)∧(A.2=false→1000000000000000000<l.natAbs):=by
 subst h;unfold J9
 by_cases h:l.natAbs≤1000000000000000000
 ·rw [if_pos h];exact ⟨fun _=>⟨rfl,h⟩,fun h=>by cases h⟩
 ·rw [if_neg h];exact ⟨fun h=>(by cases h),fun _=>by omega⟩
def NZ (Q:Int→Int→Bool→Int × Bool) (V:Int→Int→Rat) (x y:Int):Prop:=Q x y false=J9 (Ce (V x y))∧Q x y true=J9 (BL (V x y))
theorem Im (Q:Int→Int→Bool→Int × Bool) (V:Int→Int→Rat) (a b:Int × Int) (k0:NZ Q V a.1 b.1) (k1:NZ Q V a.1 b.2) (k2:NZ Q V a.2 b.1) (k3:NZ Q V a.2 b.2) :
  iM (jf (V a.1 b.1) [V a.1 b.2,V a.2 b.1,V a.2 b.2]) (fU (V a.1 b.1) [V a.1 b.2,V a.2 b.1,V a.2 b.2])=vM Q a b:=by
 have r1:=Ri (V a.1 b.1);have r2:=Ri (V a.1 b.2);have r3:=Ri (V a.2 b.1);have r4:=Ri (V a.2 b.2);have q0:=o9 k0.1;have q1:=o9 k1.1;have q2:=o9 k2.1;have q3:=o9 k3.1;have p0:=o9 k0.2;have p1:=o9 k1.2;have p2:=o9 k2.2;have p3:=o9 k3.2
 have fe:WT Q a b=((Q a.1 b.1 false).2&&(Q a.1 b.1 true).2&&((Q a.1 b.2 false).2&&(Q a.1 b.2 true).2)&&((Q a.2 b.1 false).2&&(Q a.2 b.1 true).2)&&((Q a.2 b.2 false).2&&(Q a.2 b.2 true).2)):=by
  unfold WT;simp [dB,List.range.loop,Bool.and_assoc,xC,xE,QH,N9]
 have e0:xC Q a b 0=Q a.1 b.1 false:=rfl;have e1:xC Q a b 1=Q a.1 b.2 false:=rfl;have e2:xC Q a b 2=Q a.2 b.1 false:=rfl;have e3:xC Q a b 3=Q a.2 b.2 false:=rfl;have d0:xE Q a b 0=Q a.1 b.1 true:=rfl;have d1:xE Q a b 1=Q a.1 b.2 true:=rfl;have d2:xE Q a b 2=Q a.2 b.1 true:=rfl;have d3:xE Q a b 3=Q a.2 b.2 true:=rfl;unfold vM;rw [fe,e0,e1,e2,e3,d0,d1,d2,d3];clear fe e0 e1 e2 e3 d0 d1 d2 d3 k0 k1 k2 k3;generalize Q a.1 b.1 false=A0 at *;generalize Q a.1 b.2 false=A1 at *;generalize Q a.2 b.1 false=A2 at *;generalize Q a.2 b.2 false=A3 at *;generalize Q a.1 b.1 true=B0 at *;generalize Q a.1 b.2 true=B1 at *;generalize Q a.2 b.1 true=B2 at *;generalize Q a.2 b.2 true=B3 at *;generalize V a.1 b.1=v0 at *;generalize V a.1 b.2=v1 at *;generalize V a.2 b.1=v2 at *;generalize V a.2 b.2=v3 at *;obtain ⟨h1,h2,h3,h4,h5⟩:=VQ v0 v1 v2 v3;obtain ⟨g1,g2,g3,g4,g5⟩:=MB v0 v1 v2 v3
 generalize jf v0 [v1,v2,v3]=lo at *;generalize fU v0 [v1,v2,v3]=hi at *;replace h2:Ce lo≤Ce v0:=wX h2;replace h3:Ce lo≤Ce v1:=wX h3;replace h4:Ce lo≤Ce v2:=wX h4;replace h5:Ce lo≤Ce v3:=wX h5;replace g2:BL v0≤BL hi:=wY g2;replace g3:BL v1≤BL hi:=wY g3;replace g4:BL v2≤BL hi:=wY g4;replace g5:BL v3≤BL hi:=wY g5
 have h6:Ce lo=Ce v0∨Ce lo=Ce v1∨Ce lo=Ce v2∨Ce lo=Ce v3:=by
  rcases h1 with rfl|rfl|rfl|rfl
  ·exact .inl rfl
  ·exact .inr (.inl rfl)
  ·exact .inr (.inr (.inl rfl))
  ·exact .inr (.inr (.inr rfl))
 have g6:BL hi=BL v0∨BL hi=BL v1∨BL hi=BL v2∨BL hi=BL v3:=by
  rcases g1 with rfl|rfl|rfl|rfl
  ·exact .inl rfl
  ·exact .inr (.inl rfl)
  ·exact .inr (.inr (.inl rfl))
  ·exact .inr (.inr (.inr rfl))
 unfold iM;rw [kE,kE]
 show jK (Ce lo) (BL hi)=_
 clear h1 g1;generalize Ce lo=L at *;generalize BL hi=H at *;generalize Ce v0=l0 at *;generalize Ce v1=l1 at *;generalize Ce v2=l2 at *;generalize Ce v3=l3 at *;generalize BL v0=u0 at *;generalize BL v1=u1 at *;generalize BL v2=u2 at *;generalize BL v3=u3 at *;obtain ⟨x0,y0⟩:=A0;obtain ⟨x1,y1⟩:=A1;obtain ⟨x2,y2⟩:=A2;obtain ⟨x3,y3⟩:=A3;obtain ⟨s0,t0⟩:=B0;obtain ⟨s1,t1⟩:=B1;obtain ⟨s2,t2⟩:=B2;obtain ⟨s3,t3⟩:=B3;simp only at q0 q1 q2 q3 p0 p1 p2 p3 ⊢
 by_cases hf:(y0&&t0&&(y1&&t1)&&(y2&&t2)&&(y3&&t3))=true
 ·rw [if_pos hf];simp only [aF] at hf;obtain ⟨⟨⟨⟨f1,f2⟩,f3,f4⟩,f5,f6⟩,f7,f8⟩:=hf;obtain ⟨rfl, -⟩:=q0.1 f1;obtain ⟨rfl, -⟩:=q1.1 f3;obtain ⟨rfl, -⟩:=q2.1 f5;obtain ⟨rfl, -⟩:=q3.1 f7;obtain ⟨rfl, -⟩:=p0.1 f2;obtain ⟨rfl, -⟩:=p1.1 f4;obtain ⟨rfl, -⟩:=p2.1 f6;obtain ⟨rfl, -⟩:=p3.1 f8
  have m1:L=[x0,x1,x2,x3].foldl min x0:=by
   simp only [List.foldl];omega
  have m2:H=[s0,s1,s2,s3].foldl max s0:=by
   simp only [List.foldl];omega
  rw [m1,m2]
 ·rw [if_neg hf]
  have hb:jl L H=false:=by
   refine Xt ?_
   have:y0=false∨t0=false∨y1=false∨t1=false∨y2=false∨t2=false∨y3=false∨t3=false:=by
    revert hf
    cases y0<;>cases t0<;>cases y1<;>cases t1<;>cases y2<;>cases t2<;>cases y3<;>cases t3<;>simp
   rcases this with h|h|h|h|h|h|h|h
   ·have:=q0.2 h;omega
   ·have:=p0.2 h;omega
   ·have:=q1.2 h;omega
   ·have:=p1.2 h;omega
   ·have:=q2.2 h;omega
   ·have:=p2.2 h;omega
   ·have:=q3.2 h;omega
   ·have:=p3.2 h;omega
  unfold jK;rw [hb];rfl
theorem LH (x y:Int) (d:Nat) (up:Bool):mJ x y d up=J9 (q9 (x*y) d up):=rfl
theorem ag6 {q:Rat} {n:Int} {d:Nat} (hd:0<d) (h:q*((1000000000000:Int):Rat)=(n:Rat) / ((d:Int):Rat)):Ce q=q9 n d false∧BL q=q9 n d true:=by
 unfold Ce BL;rw [h]
 constructor
 ·rw [nJ _ zo];rfl
 ·rw [tC,← Rat.intCast_neg,nJ _ zo];rfl
theorem Dh (x y:Int) (hy:y≠0):NZ (fun x y up=>oq x 1000000000000 y up) (fun x y=>un x / un y) x y:=by
 have hE:=ae0;have e1:=Cm x;have e2:=Cm y;have hy':(y:Rat)≠0:=fun h=>hy (by exact_mod_cast h);have hu:un y≠0:=fun h=>hy' (by rw [← e2,h];exact Rat.zero_mul _)
 have key:un x / un y*((1000000000000:Int):Rat)=(((if y<0 then -x else x)*1000000000000:Int):Rat) / ((y.natAbs:Int):Rat):=by
  have h1:un x / un y=(x:Rat) / (y:Rat):=by
   rw [← e1,← e2]
   grind
  rw [h1,Rat.intCast_mul]
  by_cases h:y<0
  ·rw [if_pos h];have:((y.natAbs:Int):Rat)= -(y:Rat):=by rw [← Rat.intCast_neg];congr 1;omega
   rw [this,Rat.intCast_neg]
   grind
  ·rw [if_neg h];have:((y.natAbs:Int):Rat)=(y:Rat):=by congr 1;omega
   rw [this]
   grind
 have h:=ag6 zo key;unfold NZ oq;simp only [LH];exact ⟨congrArg J9 h.1.symm,congrArg J9 h.2.symm⟩
theorem Dg (d:Int) (hd:0<d) (x n:Int):NZ (fun x y up=>oq x y d up) (fun x y=>un x*((y:Rat) / (d:Rat))) x n:=by
 have e1:=Cm x
 have hd':(d:Rat)≠0:=fun h=>by
  have:d=0:=by exact_mod_cast h
  omega
 have key:un x*((n:Rat) / (d:Rat))*((1000000000000:Int):Rat)=((x*n:Int):Rat) / ((d.natAbs:Int):Rat):=by
  have:((d.natAbs:Int):Rat)=(d:Rat):=by congr 1;omega
  rw [this,Rat.intCast_mul,← e1]
  grind
 have h:=ag6 zo key;unfold NZ oq;simp only [LH,if_neg (show ¬ d<0 by omega)];exact ⟨congrArg J9 h.1.symm,congrArg J9 h.2.symm⟩
theorem R3 (a b:Int × Int) (h1:b.1≠0) (h2:b.2≠0):iM (jf (un a.1 / un b.1) [un a.1 / un b.2,un a.2 / un b.1,un a.2 / un b.2]) (fU (un a.1 / un b.1) [un a.1 / un b.2,un a.2 / un b.1,un a.2 / un b.2])=vM (fun x y up=>oq x 1000000000000 y up) a b :=
 Im _ (fun x y=>un x / un y) a b (Dh _ _ h1) (Dh _ _ h2) (Dh _ _ h1) (Dh _ _ h2)
theorem RY (a:Int × Int) (n d:Int) (hd:0<d):iM (jf (un a.1*((n:Rat) / (d:Rat))) [un a.2*((n:Rat) / (d:Rat))]) (fU (un a.1*((n:Rat) / (d:Rat))) [un a.2*((n:Rat) / (d:Rat))])=vM (fun x y up=>oq x y d up) a (n,n):=by
 rw [← Im _ (fun x y=>un x*((y:Rat) / (d:Rat))) a (n,n) (Dg d hd _ _) (Dg d hd _ _) (Dg d hd _ _) (Dg d hd _ _)];simp only;generalize un a.1*((n:Rat) / (d:Rat))=p;generalize un a.2*((n:Rat) / (d:Rat))=q;have h1:jf p [p,q,q]=jf p [q]:=by unfold jf jf jf jf;grind
 have h2:fU p [p,q,q]=fU p [q]:=by unfold fU fU fU fU;grind
 rw [h1,h2]
end Go.Proofs.fE
