/- Lemmas for the proof. No condition. -/
import Derived.Test.YtneajphgfdlmhaaGreatDoorUB24
set_option linter.unusedVariables false
set_option linter.unusedSimpArgs false
set_option maxRecDepth 100000
set_option maxHeartbeats 16000000
open Go.Ending renaming returned → ah
open Go.IntKind renaming i64 → I
open Go.Value renaming agg → au, bool → ak, int → Z, slice → aj, string → O, tuple → aD
open List renaming replicate → bW
open Nat renaming add_zero → fU, le_trans → ay, lt_of_le_of_lt → gH, one_mul → iw
namespace Go.Proofs.whole
open Go Go.RowKit Go.SW Go.Num Go.Mem Go.Proofs Go.Dec Go.gB
theorem xV (a b:Nat) (ha:kS a=true) (hb:kS b=true) (b0:0<b) (w:World) (ht:jN.Pow w) :
  Calls Tryz.prog 291 #[dW (a:Int),dW (b:Int)] w (fun e w'=>e= ah (aD #[dW (a / b:Nat),dW (a%b:Nat),Z I 0])∧Below w.heap.size w w'):=by
 have sa:=kY ha;have q1:kS (a / b)=true:=ru ha (Nat.div_le_self _ _);have q2:kS (a%b)=true:=ru ha (Nat.mod_le _ _);have Ui:=zh (fun W=>Ii a b (fZ.1 ha) (fZ.1 hb) W);have OD:=zh (fun x y W hx hy=>iI x y a b W hx hy b0 zo);have HW1:=zh (fun v W h hq=>mI v (a / b:Nat) W h (by rw [Int.natAbs_natCast];exact ay (kY q1) zo) hq);have HW2:=zh (fun v W h hq=>mI v (a%b:Nat) W h (by rw [Int.natAbs_natCast];exact ay (kY q2) zo) hq);rw [uH q1] at HW1;rw [uH q2] at HW2;have HP:=zh ht;have d0:decide (b=0)=false:=by simp;omega
 clear sa q1 q2 ha hb ht;obtain ⟨q,Eq⟩:∃ q,a / b=q:=⟨_,rfl⟩;obtain ⟨r,Er⟩:∃ r,a%b=r:=⟨_,rfl⟩;rw [Eq] at HW1;rw [Er] at HW2;have aO7:Hid (∀ x y W,bZ W x a→bZ W y b→Calls Tryz.prog 313 #[x,y] W (oF W q r)):=zh (by rw [← Eq,← Er];exact OD.out);rw [Eq,Er];clear OD Eq Er b0;unfold dW at *;generalize (⟨(Lib.itoa (a:Int)).toArray⟩:ByteArray)=ta at *;generalize (⟨(Lib.itoa (b:Int)).toArray⟩:ByteArray)=tb at *;generalize (⟨(Lib.itoa (q:Int)).toArray⟩:ByteArray)=tq at *;generalize (⟨(Lib.itoa (r:Int)).toArray⟩:ByteArray)=tr at *;go_enter Tryz.func291,Tryz.ntmps291
 go_wp2_with fail
 refine (Ui.out _).mono ?_;rintro e w1 ⟨p1,l1,c1,p2,l2,c2,rfl,hb1,hx,hy⟩;have HX:=zh hx;have HY:=zh hy;have HB1:=zh hb1;clear hx hy hb1
 go_upto_region 2 with fail
 obtain ⟨wx,EW,hz,X1,X2⟩:=Lf w1 #[aj p1 l1 c1,ak false] 257 #[aj p2 l2 c2,ak false] 257;rw [EW];clear EW;replace HX:=zh (HX.out.later hz);replace HY:=zh (HY.out.later hz);have HB2:=zh (Bt HB1.out hz);clear hz HB1;obtain ⟨bx,eb⟩:∃ y,w1.heap.size=y:=⟨_,rfl⟩;rw [eb] at X1 X2 ⊢;obtain ⟨nK,nI⟩:=X1.cl;obtain ⟨uE,uz⟩:=X2.cl;go_wp2_with fail
 refine (iU _ b _ HY.out).mono ?_;rintro e w2 ⟨rfl,rfl⟩;rw [d0];go_wp2_with fail
 refine (aO7.out _ _ _ HX.out HY.out).mono ?_;rintro e w3 ⟨v3,v4,rfl,hb3,hv3,hv4⟩;obtain ⟨p3,l3,c3,rfl⟩:=hv3.slice;obtain ⟨p4,l4,c4,rfl⟩:=hv4.slice;have HQ:=zh hv3;have HR:=zh hv4;have HB3:=zh (Bt HB2.out hb3);replace X1:=X1.bl hb3;replace X2:=X2.bl hb3;clear hv3 hv4 hb3 HX HY HB2 nK nI uE uz;obtain ⟨nK,nI⟩:=X1.cl;obtain ⟨uE,uz⟩:=X2.cl;go_wp2_with fail
 refine (gD _ q false _ HQ.out).mono ?_;rintro e w4 ⟨v,rfl,hb4,hv⟩;obtain ⟨p5,l5,c5,rfl,hm5⟩:=id hv;have HI:=zh (hv.cast (show jh q false=(q:Int) from rfl));have g3:decide (jh q false<0)=false:=by unfold jh;simp
 rw [g3] at HI ⊢;have HB4:=zh (Bt HB3.out hb4);replace HR:=zh (HR.out.later hb4);clear hv hm5 hb4 HB3 g3 nK nI uE uz;go_wp2_with fail
 refine (HW1.out _ _ HI.out (HP.out.later HB4.out)).mono ?_;rintro e w5 ⟨rfl,hb5⟩;have HB5:=zh (Bt HB4.out hb5);replace HR:=zh (HR.out.later hb5);clear hb5 HB4 HI;go_wp2_with fail
 refine (gD _ r false _ HR.out).mono ?_;rintro e w6 ⟨v,rfl,hb6,hv⟩;obtain ⟨p6,l6,c6,rfl,hm6⟩:=id hv;have HI:=zh (hv.cast (show jh r false=(r:Int) from rfl));have g3:decide (jh r false<0)=false:=by unfold jh;simp
 rw [g3] at HI ⊢;have XL:=zh (Bt HB5.out hb6);clear hv hm6 hb6 HB5 g3;go_wp2_with fail
 refine (HW2.out _ _ HI.out (HP.out.later XL.out)).mono ?_;rintro e w7 ⟨rfl,kR⟩;have hw:=Bt XL.out kR;go_wp2_with fail
 go_ret3
 exact ⟨rfl,hw⟩
end Go.Proofs.whole
namespace Go.Proofs.power
open Go Go.RowKit Go.SW Go.Num Go.Mem Go.Proofs Go.Dec Go.gB Go.Proofs.whole
theorem PG {a b:Nat}:((⟨(Lib.itoa (a:Int)).toArray⟩:ByteArray).toList == (⟨(Lib.itoa (b:Int)).toArray⟩:ByteArray).toList)=decide (a=b):=by
 rw [ByteArray.toList_eq,ByteArray.toList_eq]
 show (Lib.itoa (a:Int) == Lib.itoa (b:Int))=_
 by_cases h:a=b
 ·subst h;simp
 ·rw [decide_eq_false h];refine beq_eq_false_iff_ne.2 fun e=>h ?_;have:=yF e;omega
theorem yu (a k:Nat) (ha:kS a=true) (hk:1≤k) (k12:k≤12) (w:World) (ht:jN.Pow w) :
  Calls Tryz.prog 157 #[dW (a:Int),Z I (k:Int)] w (fun e w'=>e= ah (aD #[dW (gP k a:Nat),ak (decide (gP k a^k=a)),Z I 0])∧Below w.heap.size w w'):=by
 have hle:=(om hk a).1;have hro:kS (gP k a)=true:=ru ha (qB hk);have HR:=zh (fun W hp=>I4 a k ha hk k12 W hp);have Ow:=zh (fun W hp=>xR (gP k a) k hro zo W hp);rw [uH (ru ha hle)] at Ow;have he:((⟨(Lib.itoa ((gP k a^k:Nat):Int)).toArray⟩:ByteArray).toList == (⟨(Lib.itoa (a:Int)).toArray⟩:ByteArray).toList)=decide (gP k a^k=a):=PG;have HP:=zh ht;clear hle hro ha ht;generalize decide (gP k a^k=a)=ex at *;generalize gP k a^k=rp at *;generalize gP k a=r at *;unfold dW at *;generalize (⟨(Lib.itoa (a:Int)).toArray⟩:ByteArray)=ta at *;generalize (⟨(Lib.itoa (rp:Int)).toArray⟩:ByteArray)=tp at *;generalize (⟨(Lib.itoa (r:Int)).toArray⟩:ByteArray)=tr at *;go_enter Tryz.func157,Tryz.ntmps157
 go_wp2_with fail
 refine (HR.out _ HP.out).mono ?_;rintro e w1 ⟨rfl,hb1⟩;have HB1:=zh hb1;clear hb1;go_wp2_with fail
 refine (Ow.out _ (HP.out.later HB1.out)).mono ?_;rintro e w2 ⟨rfl,hb2⟩;have hw:=Bt HB1.out hb2;go_wp2_with fail
 go_ret3
 exact ⟨by rw [← he];rfl,hw⟩
theorem V6 (c:Nat):Lib.itoa ((10^c:Nat):Int)=49::Lib.repeatL [48] c:=by
 have h:=BP c 1 0 zo (Nat.pow_pos zo);rw [iw,fU,iW (u:=1) zo,CQ] at h;have hr:=Lib.repeatL_replicate 48 1 c;rw [Nat.mul_one] at hr;rw [show ([48]:List UInt8)=bW 1 48 from rfl,hr];exact h
theorem sP (c:Nat) (hc:c≤1000) (w:World) :
  Calls Tryz.prog 290 #[Z I (c:Int)] w (fun e w'=>e= ah (dW (10^c:Nat))∧Below w.heap.size w w'):=by
 have H:=zh (fun W=>Tryz.strings_Repeat ⟨#[48]⟩ c W zo (by rw [show (⟨#[48]⟩:ByteArray).size=1 from rfl];omega))
 have e:(⟨(Lib.itoa ((10^c:Nat):Int)).toArray⟩:ByteArray)=(⟨#[49]⟩:ByteArray)++⟨(Lib.repeatL [48] c).toArray⟩:=by
  rw [V6];apply ByteArray.ext
  simp
 unfold dW;rw [e];clear e
 have hs:(⟨(Lib.repeatL [48] c).toArray⟩:ByteArray).size≤1000:=by
  show (Lib.repeatL [48] c).length≤1000
  rw [Lib.repeatL_length];simp
  omega
 generalize (⟨(Lib.repeatL [48] c).toArray⟩:ByteArray)=t at *;go_enter Tryz.func290,Tryz.ntmps290
 go_wp2_with fail
 refine (H.out _).mono ?_;rintro e w1 ⟨rfl,hb1⟩;go_wp2_with fail
 go_ret
 exact ⟨rfl,hb1⟩
def Ac (n:Nat) (up:Bool):Int × Int:=if n≤1000000000000000000 then ((n:Int)+(if up then 1 else 0),0) else (0,6)
theorem xH (n:Nat) (up:Bool) (hn:kS n=true) (w:World) (he:Er w) :
  Calls Tryz.prog 158 #[dW (n:Int),ak up] w (fun e w'=>e= ah (aD #[Z I (Ac n up).1,Z I (Ac n up).2])∧Below w.heap.size w w'):=by
 have H:=zh (fun W h=>aq0 n hn W h);have HE:=zh he;clear hn he;unfold dW FL at *;generalize (⟨(Lib.itoa (n:Int)).toArray⟩:ByteArray)=t at *;unfold Ac
 by_cases h1:n<9223372036854775808
 ·simp only [if_pos h1] at H
  by_cases h2:n≤1000000000000000000
  ·have g:decide ((1000000000000000000:Int)<(n:Int))=false:=by simp;omega
   simp only [if_pos h2];cases up
   all_goals
    go_enter Tryz.func158,Tryz.ntmps158
    go_wp2_with fail
    refine (H.out _ HE.out).mono ?_;rintro e w1 ⟨rfl,hb1⟩;go_wp2_with fail
    go_ret2
    exact ⟨by simp,hb1⟩
  ·have g:decide ((1000000000000000000:Int)<(n:Int))=true:=by simp;omega
   simp only [if_neg h2];go_enter Tryz.func158,Tryz.ntmps158
   go_wp2_with fail
   refine (H.out _ HE.out).mono ?_;rintro e w1 ⟨rfl,hb1⟩;go_wp2_with fail
   go_ret2
   exact ⟨rfl,hb1⟩
 ·simp only [if_neg h1] at H;have h2:¬ n≤1000000000000000000:=by omega
  simp only [if_neg h2];go_enter Tryz.func158,Tryz.ntmps158
  go_wp2_with fail
  refine (H.out _ HE.out).mono ?_;rintro e w1 ⟨rfl,hb1⟩;go_wp2_with fail
  go_ret2
  exact ⟨rfl,hb1⟩
theorem UU {c k:Nat} (h:c<k):10^c<jR k:=by
 unfold jR;exact Nat.pow_lt_pow_right zo h
theorem Pn {c:Nat} (h:c<600):kS (10^c)=true:=by
 unfold kS;exact decide_eq_true (UU h)
theorem yB {n:Nat}:kS n=true↔n<10^600:=by
 unfold kS jR;exact decide_eq_true_iff
theorem zero_eq (b:Nat):((⟨(Lib.itoa (b:Int)).toArray⟩:ByteArray).toList == [48])=decide (b=0):=by
 have:= @PG b 0
 have e:(⟨(Lib.itoa ((0:Nat):Int)).toArray⟩:ByteArray).toList=[48]:=by
  rw [ByteArray.toList_eq]
  show Lib.itoa ((0:Nat):Int)=[48]
  decide+kernel
 rw [e] at this;exact this
theorem IL {n p q:Nat} {up:Bool} (h:¬ zQ n p q≤10^18):DR n p q up=(0,6):=by
 unfold DR;rw [if_neg h]
theorem J9 {n p q:Nat} {up:Bool}:Ac (zQ n p q) (up&& !(RD n p q))=DR n p q up:=by
 by_cases h:zQ n p q≤10^18
 ·rw [Zv h];unfold Ac;rw [if_pos h]
 ·rw [IL h];unfold Ac;rw [if_neg h]
theorem DN (n p q:Nat) (up:Bool) (hn:n≤10^18) (p1:1≤p) (p36:p≤36) (q1:1≤q) (q12:q≤12) (w:World) (ht:jN.Pow w) (he:Er w) :
  Calls Tryz.prog 253 #[au #[Z I (p:Int),Z I (q:Int)],Z I (n:Int),ak up] w (fun e w'=>e= ah (aD #[Z I (DR n p q up).1,Z I (DR n p q up).2])∧Below w.heap.size w w'):=by
 have hn0:kS n=true:=yB.2 (gH hn (by decide+kernel))
 have h63:(n:Int)≤9223372036854775807:=by
  have:(10:Nat)^18=1000000000000000000:=by decide
  omega
 have HO:=zh (fun W h=>Az (n:Int) zo h63 W h);have Ow:=zh (fun W h=>xR n p hn0 zo W h);have HP:=zh ht;have HE:=zh he;clear ht he h63
 by_cases h1:kS (n^p)=true
 ·rw [uH h1] at Ow
  by_cases hpq:p≤q
  ·have g:decide ((p:Int)≤(q:Int))=true:=by simp;omega
   have e12:(12:Int)*((q:Int) - (p:Int))=((12*(q - p):Nat):Int):=by omega
   have h12:12*(q - p)≤132:=by omega
   have HT:=zh (fun W=>sP (12*(q - p)) zo W);have HM:=zh (fun W h=>ug (n^p) (10^(12*(q - p))) h1 (Pn zo) W h);have ea:=JJ (n:=n) hpq;rw [← ea] at HM;have ex:RD n p q=_:=ag1 hpq
   by_cases h2:kS (kQ n p q)=true
   ·rw [uH h2] at HM;have HR:=zh (fun W h=>yu (kQ n p q) q h2 q1 q12 W h);have HI:=zh (fun W h=>xH (zQ n p q) (up&& !(RD n p q)) (ru h2 (qB q1)) W h);rw [J9] at HI
    change Hid (∀ (W:World),jN.Pow W→Calls _ _ _ _ (fun e w'=>e= ah (aD #[dW ((zQ n p q:Nat):Int),ak (decide (zQ n p q^q=kQ n p q)),Z I 0])∧_)) at HR
    rw [← ex] at HR;clear ex ea h2 h1 hn0;obtain ⟨v,Ev⟩:∃ v,DR n p q up=v:=⟨_,rfl⟩;rw [Ev] at HI ⊢;obtain ⟨v1,v2⟩:=v;clear Ev;simp only at HI ⊢;generalize 10^(12*(q - p))=t12 at *;generalize 12*(q - p)=c12 at *;generalize RD n p q=ex at *;generalize zQ n p q=r at *;generalize kQ n p q=a at *;generalize n^p=np at *;clear hn;unfold dW at *;generalize (⟨(Lib.itoa (n:Int)).toArray⟩:ByteArray)=tn at *;generalize (⟨(Lib.itoa (np:Int)).toArray⟩:ByteArray)=tnp at *;generalize (⟨(Lib.itoa (t12:Int)).toArray⟩:ByteArray)=av4 at *;generalize (⟨(Lib.itoa (a:Int)).toArray⟩:ByteArray)=ta at *;generalize (⟨(Lib.itoa (r:Int)).toArray⟩:ByteArray)=tr at *;go_enter Tryz.func253,Tryz.ntmps253
    go_wp2_with fail
    obtain ⟨wx,EW,hz,X⟩:=zD w #[Z I (p:Int),Z I (q:Int)] 252;rw [EW];clear EW;have HB1:=zh hz;clear hz;obtain ⟨bx,eb⟩:∃ y,w.heap.size=y:=⟨_,rfl⟩;rw [eb] at X ⊢;obtain ⟨cX,lX⟩:=X.cl;refine aO [(.pure,0),(.pure,2),(.pure,3),(.read,4),(.ext,1),(.ext,5),(.pure,6),(.pure,7),(.pure,8),(.fin,9),(.fin,10)] zk zk zR zP ?_;refine zW ?_;refine aU rfl rfl (fun we hbe J hJ=>?_);go_simp;have h1:Below wx.heap.size wx we:=aJ;refine (HO.out _ (HP.out.later (Bt HB1.out h1))).mono ?_;rintro e w1 ⟨rfl,hb1⟩;refine hJ _ _ hb1 ?_;clear hJ J;have h2:=Bt h1 hb1;clear h1 hbe hb1;refine aU rfl rfl (fun we hbe J hJ=>?_);go_simp;have h3:Below w1.heap.size w1 we:=aJ;refine (Ow.out _ (HP.out.later (Bt HB1.out (Bt h2 h3)))).mono ?_;rintro e w2 ⟨rfl,hb2⟩;refine hJ _ _ hb2 ?_;clear hJ J;have h4:=Bt h2 (Bt h3 hb2);clear h3 h2 hbe hb2;refine zV ?_
    refine dD [_,_] rfl (fun wf hbf=>?_);have h5:Below wx.heap.size wx wf:=Bt h4 aJ;replace X:=X.bl h5;replace HB1:=zh (Bt HB1.out h5);clear h5 h4 hbf cX lX;obtain ⟨cX,lX⟩:=X.cl;go_wp2_with fail
    try rw [e12]
    refine (HT.out _).mono ?_;rintro e w3 ⟨rfl,hb3⟩;replace HB1:=zh (Bt HB1.out hb3);replace X:=X.bl hb3;clear hb3 cX lX;obtain ⟨cX,lX⟩:=X.cl;go_wp2_with fail
    refine (HM.out _ (HP.out.later HB1.out)).mono ?_;rintro e w4 ⟨rfl,hb4⟩;replace HB1:=zh (Bt HB1.out hb4);replace X:=X.bl hb4;clear hb4 cX lX;obtain ⟨cX,lX⟩:=X.cl;go_wp2_with fail
    refine (HR.out _ (HP.out.later HB1.out)).mono ?_;rintro e w5 ⟨rfl,hb5⟩;replace HB1:=zh (Bt HB1.out hb5);clear hb5 X cX lX;cases up<;>cases ex
    all_goals
     go_wp2_with fail
     refine (HI.out _ (HE.out.later HB1.out)).mono ?_;rintro e w6 ⟨rfl,hb6⟩;have hw:=Bt HB1.out hb6;go_wp2_with fail
     go_ret2
     exact ⟨rfl,hw⟩
   ·have hno:¬ zQ n p q≤10^18:=Nat.not_le.2 (Xj q1 q12 (Nat.not_lt.1 fun h=>h2 (yB.2 h)));rw [IL hno];rw [show Bz ((kQ n p q:Nat):Int)= aD #[O ⟨#[]⟩,Z I 6] from by unfold Bz;rw [Int.natAbs_natCast,if_neg h2]] at HM;clear ex ea h2 h1 hn0 hno;generalize 10^(12*(q - p))=t12 at *;generalize 12*(q - p)=c12 at *;generalize n^p=np at *;clear hn;unfold dW at *;generalize (⟨(Lib.itoa (n:Int)).toArray⟩:ByteArray)=tn at *;generalize (⟨(Lib.itoa (np:Int)).toArray⟩:ByteArray)=tnp at *;generalize (⟨(Lib.itoa (t12:Int)).toArray⟩:ByteArray)=av4 at *;go_enter Tryz.func253,Tryz.ntmps253
    go_wp2_with fail
    obtain ⟨wx,EW,hz,X⟩:=zD w #[Z I (p:Int),Z I (q:Int)] 252;rw [EW];clear EW;have HB1:=zh hz;clear hz;obtain ⟨bx,eb⟩:∃ y,w.heap.size=y:=⟨_,rfl⟩;rw [eb] at X ⊢;obtain ⟨cX,lX⟩:=X.cl;refine aO [(.pure,0),(.pure,2),(.pure,3),(.read,4),(.ext,1),(.ext,5),(.pure,6),(.pure,7),(.pure,8),(.fin,9),(.fin,10)] zk zk zR zP ?_;refine zW ?_;refine aU rfl rfl (fun we hbe J hJ=>?_);go_simp;have h1:Below wx.heap.size wx we:=aJ;refine (HO.out _ (HP.out.later (Bt HB1.out h1))).mono ?_;rintro e w1 ⟨rfl,hb1⟩;refine hJ _ _ hb1 ?_;clear hJ J;have h2:=Bt h1 hb1;clear h1 hbe hb1;refine aU rfl rfl (fun we hbe J hJ=>?_);go_simp;have h3:Below w1.heap.size w1 we:=aJ;refine (Ow.out _ (HP.out.later (Bt HB1.out (Bt h2 h3)))).mono ?_;rintro e w2 ⟨rfl,hb2⟩;refine hJ _ _ hb2 ?_;clear hJ J;have h4:=Bt h2 (Bt h3 hb2);clear h3 h2 hbe hb2;refine zV ?_
    refine dD [_,_] rfl (fun wf hbf=>?_);have h5:Below wx.heap.size wx wf:=Bt h4 aJ;replace X:=X.bl h5;replace HB1:=zh (Bt HB1.out h5);clear h5 h4 hbf cX lX;obtain ⟨cX,lX⟩:=X.cl;go_wp2_with fail
    try rw [e12]
    refine (HT.out _).mono ?_;rintro e w3 ⟨rfl,hb3⟩;replace HB1:=zh (Bt HB1.out hb3);replace X:=X.bl hb3;clear hb3 cX lX;obtain ⟨cX,lX⟩:=X.cl;go_wp2_with fail
    refine (HM.out _ (HP.out.later HB1.out)).mono ?_;rintro e w4 ⟨rfl,hb4⟩;have hw:=Bt HB1.out hb4;go_wp2_with fail
    go_ret2
    exact ⟨rfl,hw⟩
  ·have g:decide ((p:Int)≤(q:Int))=false:=by simp;omega
   have e12:(12:Int)*((p:Int) - (q:Int))=((12*(p - q):Nat):Int):=by omega
   have h12:12*(p - q)≤420:=by omega
   have HT:=zh (fun W=>sP (12*(p - q)) zo W);have HM:=zh (fun W h=>xV (n^p) (10^(12*(p - q))) h1 (Pn zo) (sQ _) W h);have ea:=JK (n:=n) (p:=p) (q:=q) zo;rw [← ea] at HM;have ex:RD n p q=_:=ag2 q1 zo
   have h2:kS (kQ n p q)=true:=by
    rw [ea];exact ru h1 (Nat.div_le_self _ _)
   ·have HR:=zh (fun W h=>yu (kQ n p q) q h2 q1 q12 W h);have HI:=zh (fun W h=>xH (zQ n p q) (up&& !(RD n p q)) (ru h2 (qB q1)) W h);rw [J9] at HI
    change Hid (∀ (W:World),jN.Pow W→Calls _ _ _ _ (fun e w'=>e= ah (aD #[dW ((zQ n p q:Nat):Int),ak (decide (zQ n p q^q=kQ n p q)),Z I 0])∧_)) at HR
    rw [ex] at HI;clear ex ea h2 h1 hn0;obtain ⟨v,Ev⟩:∃ v,DR n p q up=v:=⟨_,rfl⟩;rw [Ev] at HI ⊢;obtain ⟨v1,v2⟩:=v;clear Ev;simp only at HI ⊢;have hz:=zero_eq (n^p%10^(12*(p - q)));rw [← hz] at HI;clear hz;generalize n^p%10^(12*(p - q))=rm at *;generalize 10^(12*(p - q))=t12 at *;generalize 12*(p - q)=c12 at *;generalize decide (zQ n p q^q=kQ n p q)=ex at *;generalize zQ n p q=r at *;generalize kQ n p q=a at *;generalize n^p=np at *;clear hn;unfold dW at *;generalize (⟨(Lib.itoa (n:Int)).toArray⟩:ByteArray)=tn at *;generalize (⟨(Lib.itoa (np:Int)).toArray⟩:ByteArray)=tnp at *;generalize (⟨(Lib.itoa (t12:Int)).toArray⟩:ByteArray)=av4 at *;generalize (⟨(Lib.itoa (a:Int)).toArray⟩:ByteArray)=ta at *;generalize (⟨(Lib.itoa (r:Int)).toArray⟩:ByteArray)=tr at *;generalize (⟨(Lib.itoa (rm:Int)).toArray⟩:ByteArray)=tm at *;go_enter Tryz.func253,Tryz.ntmps253
    go_wp2_with fail
    obtain ⟨wx,EW,hz,X⟩:=zD w #[Z I (p:Int),Z I (q:Int)] 252;rw [EW];clear EW;have HB1:=zh hz;clear hz;obtain ⟨bx,eb⟩:∃ y,w.heap.size=y:=⟨_,rfl⟩;rw [eb] at X ⊢;obtain ⟨cX,lX⟩:=X.cl;refine aO [(.pure,0),(.pure,2),(.pure,3),(.read,4),(.ext,1),(.ext,5),(.pure,6),(.pure,7),(.pure,8),(.fin,9),(.fin,10)] zk zk zR zP ?_;refine zW ?_;refine aU rfl rfl (fun we hbe J hJ=>?_);go_simp;have h1:Below wx.heap.size wx we:=aJ;refine (HO.out _ (HP.out.later (Bt HB1.out h1))).mono ?_;rintro e w1 ⟨rfl,hb1⟩;refine hJ _ _ hb1 ?_;clear hJ J;have h2:=Bt h1 hb1;clear h1 hbe hb1;refine aU rfl rfl (fun we hbe J hJ=>?_);go_simp;have h3:Below w1.heap.size w1 we:=aJ;refine (Ow.out _ (HP.out.later (Bt HB1.out (Bt h2 h3)))).mono ?_;rintro e w2 ⟨rfl,hb2⟩;refine hJ _ _ hb2 ?_;clear hJ J;have h4:=Bt h2 (Bt h3 hb2);clear h3 h2 hbe hb2;refine zV ?_
    refine dD [_,_] rfl (fun wf hbf=>?_);have h5:Below wx.heap.size wx wf:=Bt h4 aJ;replace X:=X.bl h5;replace HB1:=zh (Bt HB1.out h5);clear h5 h4 hbf cX lX;obtain ⟨cX,lX⟩:=X.cl;go_wp2_with fail
    try rw [e12]
    refine (HT.out _).mono ?_;rintro e w3 ⟨rfl,hb3⟩;replace HB1:=zh (Bt HB1.out hb3);replace X:=X.bl hb3;clear hb3 cX lX;obtain ⟨cX,lX⟩:=X.cl;go_wp2_with fail
    refine (HM.out _ (HP.out.later HB1.out)).mono ?_;rintro e w4 ⟨rfl,hb4⟩;replace HB1:=zh (Bt HB1.out hb4);replace X:=X.bl hb4;clear hb4 cX lX;obtain ⟨cX,lX⟩:=X.cl;go_wp2_with fail
    refine (HR.out _ (HP.out.later HB1.out)).mono ?_;rintro e w5 ⟨rfl,hb5⟩;replace HB1:=zh (Bt HB1.out hb5);clear hb5 X cX lX;cases hz:(tm.toList == [48])<;>rw [hz] at HI<;>cases up<;>cases ex
    all_goals
     go_wp2_with fail
     refine (HI.out _ (HE.out.later HB1.out)).mono ?_;rintro e w6 ⟨rfl,hb6⟩;have hw:=Bt HB1.out hb6;go_wp2_with fail
     go_ret2
     exact ⟨rfl,hw⟩
 ·have hno:¬ zQ n p q≤10^18:=Nat.not_le.2 (YA q1 p36 q12 (Nat.not_lt.1 fun h=>h1 (yB.2 h)));rw [IL hno];rw [show Bz ((n^p:Nat):Int)= aD #[O ⟨#[]⟩,Z I 6] from by unfold Bz;rw [Int.natAbs_natCast,if_neg h1]] at Ow;clear h1 hn0 hno hn;unfold dW at *;generalize (⟨(Lib.itoa (n:Int)).toArray⟩:ByteArray)=tn at *;go_enter Tryz.func253,Tryz.ntmps253
  go_wp2_with fail
  obtain ⟨wx,EW,hz,X⟩:=zD w #[Z I (p:Int),Z I (q:Int)] 252;rw [EW];clear EW;have HB1:=zh hz;clear hz;obtain ⟨bx,eb⟩:∃ y,w.heap.size=y:=⟨_,rfl⟩;rw [eb] at X ⊢;obtain ⟨cX,lX⟩:=X.cl;refine aO [(.pure,0),(.pure,2),(.pure,3),(.read,4),(.ext,1),(.ext,5),(.pure,6),(.pure,7),(.pure,8),(.fin,9),(.fin,10)] zk zk zR zP ?_;refine zW ?_;refine aU rfl rfl (fun we hbe J hJ=>?_);go_simp;have h1:Below wx.heap.size wx we:=aJ;refine (HO.out _ (HP.out.later (Bt HB1.out h1))).mono ?_;rintro e w1 ⟨rfl,hb1⟩;refine hJ _ _ hb1 ?_;clear hJ J;have h2:=Bt h1 hb1;clear h1 hbe hb1;refine aU rfl rfl (fun we hbe J hJ=>?_);go_simp;have h3:Below w1.heap.size w1 we:=aJ;refine (Ow.out _ (HP.out.later (Bt HB1.out (Bt h2 h3)))).mono ?_;rintro e w2 ⟨rfl,hb2⟩;refine hJ _ _ hb2 ?_;clear hJ J;have h4:=Bt h2 (Bt h3 hb2);clear h3 h2 hbe hb2;refine zV ?_
  refine dD [_,_] rfl (fun wf hbf=>?_);have h5:Below wx.heap.size wx wf:=Bt h4 aJ;replace X:=X.bl h5;replace HB1:=zh (Bt HB1.out h5);clear h5 h4 hbf cX lX;obtain ⟨cX,lX⟩:=X.cl;have hw:=HB1.out;go_wp2_with fail
  go_ret2
  exact ⟨rfl,hw⟩
end Go.Proofs.power
namespace Go.Proofs.power
open Go Go.RowKit Go.SW Go.Num Go.Mem Go.Proofs Go.Dec Go.gB Go.Proofs.whole Go.Proofs.aW
def MP (a b:Int × Int):(Int × Int) × Int:=if a.2≠0 then ((0,0),a.2) else if b.2≠0 then ((0,0),b.2) else if gM a.1 b.1 then ((a.1,b.1),0) else ((0,0),6)
theorem Pm (a b:Int × Int):RS a b=dZ (MP a b):=by
 unfold RS MP dZ
 by_cases h1:a.2=0<;>by_cases h2:b.2=0<;>cases h3:gM a.1 b.1<;>simp [h1,h2]
def pwE (lo hi p q:Int):(Int × Int) × Int:=if gM lo hi=false then ((0,0),30) else if eok p q=false∨lo<0 then ((0,0),2) else MP (DR lo.toNat p.toNat q.toNat false) (DR hi.toNat p.toNat q.toNat true)
theorem Xy (lo hi p q:Int) (w:World) (ht:jN.Pow w) (he:Er w) :
  Calls Tryz.prog 199 #[au #[Z I lo,Z I hi],Z I p,Z I q] w (fun e w'=>e= ah (dZ (pwE lo hi p q))∧Below w.heap.size w w'):=by
 have HP:=zh ht;have HE:=zh he;have HC:=zh (fun W=>iT lo hi W);have HV:=zh (fun W=>nN p q W);clear ht he;generalize hz0:pwE lo hi p q=z at *;unfold pwE at hz0;obtain ⟨⟨z1,z2⟩,z3⟩:=z;unfold dZ;simp only;go_enter Tryz.func199,Tryz.ntmps199
 go_wp2_with fail
 obtain ⟨wx,EW,hz,X,R⟩:=Lf w #[Z I lo,Z I hi] 40 #[Z I 0,Z I 0] 40;rw [EW];clear EW;have HB:=zh hz;clear hz;obtain ⟨bx,eb⟩:∃ y,w.heap.size=y:=⟨_,rfl⟩;rw [eb] at X R ⊢;refine (HC.out _).mono ?_;rintro e w1 ⟨rfl,hb1⟩;replace X:=X.bl hb1;replace R:=R.bl hb1;replace HB:=zh (Bt HB.out hb1);clear hb1 HC;obtain ⟨cX,lX⟩:=X.cl;cases hk:gM lo hi
 ·rw [hk,if_pos rfl] at hz0;cases hz0
  have hx:=R.out;have cx:=hx.cell;have fx:=hx.free;have lx:=hx.lt;have hw:=HB.out;go_wp2_with fail
  refine bK rfl rfl bI Tryz.underlying40 rfl zk ?_;exact ⟨rfl,aJ⟩
 ·rw [hk,if_neg zi] at hz0;go_wp2_with fail
  obtain ⟨wy,EW,hz,Y⟩:=zD w1 #[Z I p,Z I q] 252;rw [EW];clear EW;replace HB:=zh (Bt HB.out hz);replace X:=X.bl hz;replace R:=R.bl hz;clear hz cX lX;obtain ⟨by',eb⟩:∃ y,w1.heap.size=y:=⟨_,rfl⟩;rw [eb] at Y ⊢;refine (HV.out _).mono ?_;rintro e w2 ⟨rfl,hb2⟩;replace HB:=zh (Bt HB.out hb2);replace X:=X.bl hb2;replace R:=R.bl hb2;replace Y:=Y.bl hb2;clear hb2 HV;obtain ⟨cX,lX⟩:=X.cl;obtain ⟨cY,lY⟩:=Y.cl;cases hv:eok p q
  ·rw [hv,if_pos (Or.inl rfl)] at hz0;cases hz0
   have hx:=R.out;have cx:=hx.cell;have fx:=hx.free;have lx:=hx.lt;have hw:=HB.out;go_wp2_with fail
   refine bK rfl rfl bI Tryz.underlying40 rfl zk ?_;exact ⟨rfl,aJ⟩
  ·by_cases h0:lo<0
   ·have g:decide (lo<0)=true:=decide_eq_true h0;rw [if_pos (Or.inr h0)] at hz0;cases hz0
    have hx:=R.out;have cx:=hx.cell;have fx:=hx.free;have lx:=hx.lt;have hw:=HB.out;go_wp2_with fail
    refine bK rfl rfl bI Tryz.underlying40 rfl zk ?_;exact ⟨rfl,aJ⟩
   ·have g:decide (lo<0)=false:=decide_eq_false h0;rw [hv,if_neg (by simp [h0])] at hz0;obtain ⟨hp1,aI6,hq1,hq12⟩:1≤p∧p≤36∧1≤q∧q≤12:=by simpa [eok] using hv
    obtain ⟨hk1,hk2,hk3⟩: -1000000000000000000≤lo∧lo≤hi∧hi≤1000000000000000000:=by simpa [gM] using hk
    have h18:(10:Nat)^18=1000000000000000000:=by decide
    have E1:=fun W (h:Below w2.heap.size w2 W)=>DN lo.toNat p.toNat q.toNat false (by rw [h18];omega) zo zo zo zo W (HP.out.later (Bt HB.out h)) (HE.out.later (Bt HB.out h));have E2:=fun W (h:Below w2.heap.size w2 W)=>DN hi.toNat p.toNat q.toNat true (by rw [h18];omega) zo zo zo zo W (HP.out.later (Bt HB.out h)) (HE.out.later (Bt HB.out h));simp only [Int.toNat_of_nonneg (show 0≤lo by omega),Int.toNat_of_nonneg (show 0≤hi by omega),Int.toNat_of_nonneg (show 0≤p by omega),Int.toNat_of_nonneg (show 0≤q by omega)] at E1 E2;have HO:=zh (MO lo hi (.func (.func 253) #[au #[Z I p,Z I q]] #[]) 253 #[au #[Z I p,Z I q]] #[] _ _ w2 rfl E1 E2 rfl (fun args W=>by rfl));rw [Pm,hz0] at HO;unfold dZ at HO;clear hz0 E1 E2 h18 hp1 aI6 hq1 hq12 hk1 hk2 hk3 hv h0 hk;go_wp2_with fail
    refine HO.out.mono ?_;rintro e w3 ⟨rfl,hb3⟩;replace HB:=zh (Bt HB.out hb3);replace R:=R.bl hb3;clear hb3 HO X Y cX lX cY lY;have hx:=R.out;have cx:=hx.cell;have fx:=hx.free;have lx:=hx.lt;have hw:=HB.out;go_wp2_with fail
    refine bK rfl rfl bI Tryz.underlying40 rfl zk ?_;exact ⟨rfl,aJ⟩
theorem I4 (lo hi q:Int) (w:World) (ht:jN.Pow w) (he:Er w) :
  Calls Tryz.prog 124 #[au #[Z I lo,Z I hi],Z I q] w (fun e w'=>e= ah (dZ (pwE lo hi 1 q))∧Below w.heap.size w w'):=by
 have HP:=zh ht;have HE:=zh he;have H:=zh (fun W h1 h2=>Xy lo hi 1 q W h1 h2);clear ht he;generalize pwE lo hi 1 q=z at *;obtain ⟨⟨z1,z2⟩,z3⟩:=z;unfold dZ at *;simp only at *;go_enter Tryz.func124,Tryz.ntmps124
 go_wp2_with fail
 obtain ⟨wx,EW,hz,X,R⟩:=Lf w #[Z I lo,Z I hi] 40 #[Z I 0,Z I 0] 40;rw [EW];clear EW;have HB:=zh hz;clear hz;obtain ⟨bx,eb⟩:∃ y,w.heap.size=y:=⟨_,rfl⟩;rw [eb] at X R ⊢;refine (H.out _ (HP.out.later HB.out) (HE.out.later HB.out)).mono ?_;rintro e w1 ⟨rfl,hb1⟩;replace R:=R.bl hb1;replace HB:=zh (Bt HB.out hb1);clear hb1 X;have hx:=R.out;have cx:=hx.cell;have fx:=hx.free;have lx:=hx.lt;have hw:=HB.out;go_wp2_with fail
 refine bK rfl rfl bI Tryz.underlying40 rfl zk ?_;exact ⟨rfl,aJ⟩
end Go.Proofs.power
namespace Go.Proofs.fC
open Go Go.RowKit Go.SW Go.Num Go.Mem Go.Proofs Go.Dec Go.gB
theorem VG (x y:Value) (p q:Rat) (w:World) (hx:gX w x p) (hy:gX w y q) (kp:jy 1000000 p) (kq:jy 1000000 q) :
  Calls Tryz.prog 64 #[x,y] w (fun e w'=>∃ v,e= ah v∧Below w.heap.size w w'∧gX w' v (p*q)):=by
 obtain ⟨JO,lH,K7,XU,mH,X0,rfl,H,Hd⟩:=hx;replace H:=zh H;replace Hd:=zh Hd;obtain ⟨paG,lG,caG,pbG,mG,cbG,rfl,G,Gd⟩:=hy;replace G:=zh G;replace Gd:=zh Gd;have HP:=zh (M0 p q);have hp:=p.den_pos;have hq:=q.den_pos;have hg:0<p.num.natAbs.gcd q.den:=Nat.gcd_pos_of_pos_right _ hq;have hh:0<q.num.natAbs.gcd p.den:=Nat.gcd_pos_of_pos_right _ hp;obtain ⟨kp1,kp2⟩:=kp;obtain ⟨kq1,kq2⟩:=kq;obtain ⟨g,Eg⟩:∃ y:Nat,Hid (p.num.natAbs.gcd q.den=y):=⟨_,zh rfl⟩;rw [Eg.out] at hg HP;obtain ⟨h,Eh⟩:∃ y:Nat,Hid (q.num.natAbs.gcd p.den=y):=⟨_,zh rfl⟩;rw [Eh.out] at hh HP;have k1:= @kW p.num.natAbs g;have k2:= @kW p.den h;have k3:= @kW q.num.natAbs h;have k4:= @kW q.den g;obtain ⟨a,Ea⟩:∃ y:Nat,Hid (p.num.natAbs / g=y):=⟨_,zh rfl⟩;rw [Ea.out] at HP k1;obtain ⟨b,Eb⟩:∃ y:Nat,Hid (p.den / h=y):=⟨_,zh rfl⟩;rw [Eb.out] at HP k2;obtain ⟨c,Ec⟩:∃ y:Nat,Hid (q.num.natAbs / h=y):=⟨_,zh rfl⟩
 rw [Ec.out] at HP k3;obtain ⟨d,Ed⟩:∃ y:Nat,Hid (q.den / g=y):=⟨_,zh rfl⟩;rw [Ed.out] at HP k4;obtain ⟨s,Es⟩:∃ y:Nat,Hid (a*c=y):=⟨_,zh rfl⟩;rw [Es.out] at HP;obtain ⟨t,Et⟩:∃ y:Nat,Hid (b*d=y):=⟨_,zh rfl⟩;rw [Et.out] at HP;have HGp:=zh hg;have HHp:=zh hh;have Kpn:Hid (sz 1000000000 p.num.natAbs≤549755813888):=by unfold Hid;omega
 have Kqn:Hid (sz 1000000000 q.num.natAbs≤549755813888):=by unfold Hid;omega
 have Kpd:Hid (sz 1000000000 p.den≤549755813888):=by unfold Hid;omega
 have Kqd:Hid (sz 1000000000 q.den≤549755813888):=by unfold Hid;omega
 have Ka:Hid (sz 1000000000 a≤1099511627776):=by unfold Hid;omega
 have Kb:Hid (sz 1000000000 b≤1099511627776):=by unfold Hid;omega
 have Kc:Hid (sz 1000000000 c≤1099511627776):=by unfold Hid;omega
 have Kd:Hid (sz 1000000000 d≤1099511627776):=by unfold Hid;omega
 clear k1 k2 k3 k4 kp1 kp2 kq1 kq2 hg hh hp hq;go_enter Tryz.func64,Tryz.ntmps64
 go_wp2_with fail
 refine ((xI _ _ p.num.natAbs q.den _ aY aY Kpn.out Kqd.out).mono (by rw [Eg.out];exact fun _ _ h=>h)).mono ?_;rintro e v1 ⟨v,rfl,hc1,hv⟩;obtain ⟨aT9,lMg,aY7,rfl⟩:=hv.slice;have Mg:=zh hv;clear hv;replace H:=zh (bZ.carry H.out aY hc1);replace Hd:=zh (bZ.carry Hd.out aY hc1);replace G:=zh (bZ.carry G.out aY hc1);replace Gd:=zh (bZ.carry Gd.out aY hc1);have BR:=aB.later (aB.at2 _ _ _ _ _) hc1;have dV:=BR.cell;have dU:=BR.free;have B1:=aB.later (aB.alloc (aB.qM _ _ _ _) _) hc1;have cB1:=B1.cell;have wu:=B1.free;have B0:=aB.later (aB.alloc (aB.alloc (aB.new _ _ _) _) _) hc1;have cB0:=B0.cell;have lK:=B0.free;go_wp2_with fail
 refine ((xI _ _ q.num.natAbs p.den _ aY aY Kqn.out Kpd.out).mono (by rw [Eh.out];exact fun _ _ h=>h)).mono ?_;rintro e v2 ⟨v,rfl,hc2,hv⟩;obtain ⟨aT8,lMh,aY6,rfl⟩:=hv.slice;have Mh:=zh hv;clear hv;replace H:=zh (bZ.later H.out hc2);replace Hd:=zh (bZ.later Hd.out hc2);replace G:=zh (bZ.later G.out hc2);replace Gd:=zh (bZ.later Gd.out hc2);replace Mg:=zh (bZ.later Mg.out hc2);replace BR:=aB.later (BR) hc2;replace dV:=BR.cell;replace dU:=BR.free;replace B1:=aB.later (B1) hc2;replace cB1:=B1.cell;replace wu:=B1.free;replace B0:=aB.later (B0) hc2;replace cB0:=B0.cell;replace lK:=B0.free;go_wp2_with fail
 refine ((iI _ _ p.num.natAbs g _ aY aY HGp.out Kpn.out).mono (by rw [Ea.out];exact fun _ _ h=>h)).mono ?_;rintro e v3 ⟨v,vr,rfl,hc3,hv,qC⟩;obtain ⟨aU3,lMa,aZ1,rfl⟩:=hv.slice;have Ma:=zh hv;clear hv;obtain ⟨aP5,aW3,aQ7,rfl⟩:=qC.slice;have Mar:=zh qC;clear qC;replace Hd:=zh (bZ.later Hd.out hc3);replace G:=zh (bZ.later G.out hc3);replace Gd:=zh (bZ.later Gd.out hc3);replace Mg:=zh (bZ.later Mg.out hc3);replace Mh:=zh (bZ.later Mh.out hc3);replace BR:=aB.later (BR) hc3;replace dV:=BR.cell;replace dU:=BR.free;replace B1:=aB.later (B1) hc3;replace cB1:=B1.cell;replace wu:=B1.free;replace B0:=aB.later (B0) hc3;replace cB0:=B0.cell;replace lK:=B0.free;go_wp2_with fail
 clear Mar H;refine ((iI _ _ p.den h _ aY aY HHp.out Kpd.out).mono (by rw [Eb.out];exact fun _ _ h=>h)).mono ?_;rintro e v4 ⟨v,vr,rfl,hc4,hv,qC⟩;obtain ⟨aU2,lMb,aZ0,rfl⟩:=hv.slice;have Mb:=zh hv;clear hv;obtain ⟨aP4,aW2,aQ6,rfl⟩:=qC.slice;have Mbr:=zh qC;clear qC;replace G:=zh (bZ.later G.out hc4);replace Gd:=zh (bZ.later Gd.out hc4);replace Mg:=zh (bZ.later Mg.out hc4);replace Mh:=zh (bZ.later Mh.out hc4);replace Ma:=zh (bZ.later Ma.out hc4);replace BR:=aB.later (BR) hc4;replace dV:=BR.cell;replace dU:=BR.free;replace B1:=aB.later (B1) hc4;replace cB1:=B1.cell;replace wu:=B1.free;replace B0:=aB.later (B0) hc4;replace cB0:=B0.cell;replace lK:=B0.free;go_wp2_with fail
 clear Mbr Hd;refine ((iI _ _ q.num.natAbs h _ aY aY HHp.out Kqn.out).mono (by rw [Ec.out];exact fun _ _ h=>h)).mono ?_;rintro e v5 ⟨v,vr,rfl,pQ,hv,qC⟩;obtain ⟨aU1,lMc,aY9,rfl⟩:=hv.slice;have Mc:=zh hv;clear hv;obtain ⟨aP3,aW1,aQ5,rfl⟩:=qC.slice;have Mcr:=zh qC;clear qC;replace Gd:=zh (bZ.later Gd.out pQ);replace Mg:=zh (bZ.later Mg.out pQ);replace Ma:=zh (bZ.later Ma.out pQ);replace Mb:=zh (bZ.later Mb.out pQ);replace BR:=aB.later (BR) pQ;replace dV:=BR.cell;replace dU:=BR.free;replace B1:=aB.later (B1) pQ;replace cB1:=B1.cell;replace wu:=B1.free;replace B0:=aB.later (B0) pQ;replace cB0:=B0.cell;replace lK:=B0.free;go_wp2_with fail
 clear Mcr G;refine ((iI _ _ q.den g _ aY aY HGp.out Kqd.out).mono (by rw [Ed.out];exact fun _ _ h=>h)).mono ?_;rintro e v6 ⟨v,vr,rfl,hc6,hv,qC⟩;obtain ⟨aU0,lMd,aY8,rfl⟩:=hv.slice;have Md:=zh hv;clear hv;obtain ⟨aP2,aW0,aQ4,rfl⟩:=qC.slice;have Mdr:=zh qC;clear qC;replace Ma:=zh (bZ.later Ma.out hc6);replace Mb:=zh (bZ.later Mb.out hc6);replace Mc:=zh (bZ.later Mc.out hc6);replace BR:=aB.later (BR) hc6;replace dV:=BR.cell;replace dU:=BR.free;replace B1:=aB.later (B1) hc6;replace cB1:=B1.cell;replace wu:=B1.free;replace B0:=aB.later (B0) hc6;replace cB0:=B0.cell;replace lK:=B0.free;go_wp2_with fail
 clear Mdr Gd;refine aO [(.pure,0),(.pure,1),(.pure,3),(.pure,4),(.read,5),(.pure,6),(.pure,7),(.read,8),(.pure,9),(.pure,11),(.pure,12),(.ext,2),(.ext,10),(.ext,13),(.pure,14),(.fin,15)] zk zk zR zP ?_;refine zV ?_;refine aU rfl rfl (fun w7 kR J hJ=>?_);go_simp;replace Ma:=zh (bZ.carry Ma.out aY kR);replace Mb:=zh (bZ.carry Mb.out aY kR);replace Mc:=zh (bZ.carry Mc.out aY kR);replace Md:=zh (bZ.carry Md.out aY kR);replace BR:=aB.later (aB.drew BR) kR;replace dV:=BR.cell;replace dU:=BR.free;refine ((kE _ _ a c _ aY aY Ka.out Kc.out).mono (by rw [Es.out];exact fun _ _ h=>h)).mono ?_;rintro e v7 ⟨v,rfl,IC,hv⟩;obtain ⟨aT7,lMs,aY5,rfl⟩:=hv.slice;have Ms:=zh hv;clear hv;replace Ma:=zh (bZ.later Ma.out IC);replace Mb:=zh (bZ.later Mb.out IC);replace Mc:=zh (bZ.later Mc.out IC);replace Md:=zh (bZ.later Md.out IC)
 replace BR:=aB.later (BR) IC;replace dV:=BR.cell;replace dU:=BR.free;refine hJ _ _ IC ?_;clear hJ J;refine aU rfl rfl (fun w8 Ji J hJ=>?_);go_simp;replace Mb:=zh (bZ.later Mb.out Ji);replace Md:=zh (bZ.later Md.out Ji);replace Ms:=zh (bZ.later Ms.out Ji);replace BR:=aB.later (BR) Ji;replace dV:=BR.cell;replace dU:=BR.free;refine (gD _ s _ _ aY).mono ?_;rintro e v8 ⟨v,rfl,hc8,hv⟩;obtain ⟨aT5,lMv,aY3,rfl,Mv⟩:=hv;replace Mv:=zh Mv;replace Mb:=zh (bZ.later Mb.out hc8);replace Md:=zh (bZ.later Md.out hc8);replace Ms:=zh (bZ.later Ms.out hc8);replace BR:=aB.later (BR) hc8;replace dV:=BR.cell;replace dU:=BR.free;refine hJ _ _ hc8 ?_;clear hJ J;refine aU rfl rfl (fun w9 uD J hJ=>?_);go_simp;replace Mb:=zh (bZ.later Mb.out uD);replace Md:=zh (bZ.later Md.out uD);replace Mv:=zh (bZ.later Mv.out uD)
 replace BR:=aB.later (BR) uD;replace dV:=BR.cell;replace dU:=BR.free;refine ((kE _ _ b d _ aY aY Kb.out Kd.out).mono (by rw [Et.out];exact fun _ _ h=>h)).mono ?_;rintro e v9 ⟨v,rfl,Nq,hv⟩;obtain ⟨aT6,lMt,aY4,rfl⟩:=hv.slice;have Mt:=zh hv;clear hv;replace Mb:=zh (bZ.later Mb.out Nq);replace Md:=zh (bZ.later Md.out Nq);replace Mv:=zh (bZ.later Mv.out Nq);replace BR:=aB.later (BR) Nq;replace dV:=BR.cell;replace dU:=BR.free;refine hJ _ _ Nq ?_;clear hJ J;refine zV ?_;refine dD [_] rfl (fun w14 ak5=>?_);replace BR:=aB.later (BR) ak5;replace dV:=BR.cell;replace dU:=BR.free;go_wp2_with fail
 refine ig rfl rfl bI Tryz.underlying108 rfl zk ?_;exact ⟨_,rfl,aJ,gX.mk (jh s (!(decide (p.num<0) == decide (q.num<0)))).natAbs t aY aY (by rw [HP.out.1]) HP.out.2.symm (by rw [HP.out.1])⟩
end Go.Proofs.fC
