/- Lemmas for the proof. No condition. -/
import Derived.Test.YtlpjmogillpnbaaGreatDoorTB24
set_option linter.unusedVariables false
set_option linter.unusedSimpArgs false
set_option maxRecDepth 100000
set_option maxHeartbeats 16000000
open Go.Ending renaming returned → ah
open Go.IntKind renaming i64 → I
open Go.Value renaming agg → au, bool → ay, int → Z, pointer → aA, slice → aj, string → O, tuple → aD
open Nat renaming le_refl → aI, lt_of_le_of_lt → gB, lt_or_ge → aO
namespace Go.Proofs.power
open Go Go.RowKit Go.SW Go.Num Go.Mem Go.Proofs Go.Dec Go.gW Go.Proofs.whole
theorem LK {c k:Nat} (h:c<k):10^c<jN k:=by
 unfold jN;exact Nat.pow_lt_pow_right zo h
theorem Iy {c:Nat} (h:c<600):kg (10^c)=true:=by
 unfold kg;exact decide_eq_true (LK h)
theorem tF {n:Nat}:kg n=true↔n<10^600:=by
 unfold kg jN;exact decide_eq_true_iff
theorem zero_eq (b:Nat):((⟨(Lib.itoa (b:Int)).toArray⟩:ByteArray).toList == [48])=decide (b=0):=by
 have:= @IU b 0
 have e:(⟨(Lib.itoa ((0:Nat):Int)).toArray⟩:ByteArray).toList=[48]:=by
  rw [ByteArray.toList_eq]
  show Lib.itoa ((0:Nat):Int)=[48]
  decide+kernel
 rw [e] at this;exact this
theorem Bq {n p q:Nat} {up:Bool} (h:¬ uS n p q≤10^18):u7 n p q up=(0,6):=by
 unfold u7;rw [if_neg h]
theorem Dt {n p q:Nat} {up:Bool}:uW (uS n p q) (up&& !(JH n p q))=u7 n p q up:=by
 by_cases h:uS n p q≤10^18
 ·rw [QC h];unfold uW;rw [if_pos h]
 ·rw [Bq h];unfold uW;rw [if_neg h]
theorem yF (n p q:Nat) (up:Bool) (hn:n≤10^18) (p1:1≤p) (p36:p≤36) (q1:1≤q) (RS:q≤12) (w:World) (ht:gJ.Pow w) (he:Er w) :
  Calls Tryz.prog 177 #[au #[Z I (p:Int),Z I (q:Int)],Z I (n:Int),ay up] w (fun e w'=>e= ah (aD #[Z I (u7 n p q up).1,Z I (u7 n p q up).2])∧Below w.heap.size w w'):=by
 have hn0:kg n=true:=tF.2 (gB hn (by decide+kernel))
 have h63:(n:Int)≤9223372036854775807:=by
  have:(10:Nat)^18=1000000000000000000:=by decide
  omega
 have HO:=zh (fun W h=>IC (n:Int) zo h63 W h);have GU:=zh (fun W h=>GL n p hn0 zo W h);have HP:=zh ht;have HE:=zh he;clear ht he h63
 by_cases h1:kg (n^p)=true
 ·rw [pX h1] at GU
  by_cases hpq:p≤q
  ·have g:decide ((p:Int)≤(q:Int))=true:=by simp;omega
   have e12:(12:Int)*((q:Int) - (p:Int))=((12*(q - p):Nat):Int):=by omega
   have h12:12*(q - p)≤132:=by omega
   have HT:=zh (fun W=>oP (12*(q - p)) zo W);have HM:=zh (fun W h=>yU (n^p) (10^(12*(q - p))) h1 (Iy zo) W h);have ea:=CQ (n:=n) hpq;rw [← ea] at HM;have ex:JH n p q=_:=Tt hpq
   by_cases h2:kg (jC n p q)=true
   ·rw [pX h2] at HM;have HR:=zh (fun W h=>sQ (jC n p q) q h2 q1 RS W h);have HI:=zh (fun W h=>rY (uS n p q) (up&& !(JH n p q)) (nQ h2 (mX q1)) W h);rw [Dt] at HI
    change Hid (∀ (W:World),gJ.Pow W→Calls _ _ _ _ (fun e w'=>e= ah (aD #[dA ((uS n p q:Nat):Int),ay (decide (uS n p q^q=jC n p q)),Z I 0])∧_)) at HR
    rw [← ex] at HR;clear ex ea h2 h1 hn0;obtain ⟨v,Ev⟩:∃ v,u7 n p q up=v:=⟨_,rfl⟩;rw [Ev] at HI ⊢;obtain ⟨v1,v2⟩:=v;clear Ev;simp only at HI ⊢;generalize 10^(12*(q - p))=t12 at *;generalize 12*(q - p)=c12 at *;generalize JH n p q=ex at *;generalize uS n p q=r at *;generalize jC n p q=a at *;generalize n^p=np at *;clear hn;unfold dA at *;generalize (⟨(Lib.itoa (n:Int)).toArray⟩:ByteArray)=tn at *;generalize (⟨(Lib.itoa (np:Int)).toArray⟩:ByteArray)=tnp at *;generalize (⟨(Lib.itoa (t12:Int)).toArray⟩:ByteArray)=XA at *;generalize (⟨(Lib.itoa (a:Int)).toArray⟩:ByteArray)=ta at *;generalize (⟨(Lib.itoa (r:Int)).toArray⟩:ByteArray)=tr at *;go_enter Tryz.func177,Tryz.ntmps177
    go_wp2_with fail
    obtain ⟨wx,EW,hz,X⟩:=EP w #[Z I (p:Int),Z I (q:Int)] 225;rw [EW];clear EW;have HB1:=zh hz;clear hz;obtain ⟨bx,eb⟩:∃ y,w.heap.size=y:=⟨_,rfl⟩;rw [eb] at X ⊢;obtain ⟨cX,lX⟩:=X.cl;refine aT [(.pure,0),(.pure,2),(.pure,3),(.read,4),(.ext,1),(.ext,5),(.pure,6),(.pure,7),(.pure,8),(.fin,9),(.fin,10)] zk zk zR zP ?_;refine zW ?_;refine aW rfl rfl (fun we hbe J hJ=>?_);go_simp;have h1:Below wx.heap.size wx we:=aN;refine (HO.out _ (HP.out.later (Bt HB1.out h1))).mono ?_;rintro e w1 ⟨rfl,hb1⟩;refine hJ _ _ hb1 ?_;clear hJ J;have h2:=Bt h1 hb1;clear h1 hbe hb1;refine aW rfl rfl (fun we hbe J hJ=>?_);go_simp;have h3:Below w1.heap.size w1 we:=aN;refine (GU.out _ (HP.out.later (Bt HB1.out (Bt h2 h3)))).mono ?_;rintro e w2 ⟨rfl,hb2⟩;refine hJ _ _ hb2 ?_;clear hJ J;have h4:=Bt h2 (Bt h3 hb2);clear h3 h2 hbe hb2;refine zV ?_
    refine dG [_,_] rfl (fun wf hbf=>?_);have h5:Below wx.heap.size wx wf:=Bt h4 aN;replace X:=X.bl h5;replace HB1:=zh (Bt HB1.out h5);clear h5 h4 hbf cX lX;obtain ⟨cX,lX⟩:=X.cl;go_wp2_with fail
    try rw [e12]
    refine (HT.out _).mono ?_;rintro e w3 ⟨rfl,hb3⟩;replace HB1:=zh (Bt HB1.out hb3);replace X:=X.bl hb3;clear hb3 cX lX;obtain ⟨cX,lX⟩:=X.cl;go_wp2_with fail
    refine (HM.out _ (HP.out.later HB1.out)).mono ?_;rintro e w4 ⟨rfl,hb4⟩;replace HB1:=zh (Bt HB1.out hb4);replace X:=X.bl hb4;clear hb4 cX lX;obtain ⟨cX,lX⟩:=X.cl;go_wp2_with fail
    refine (HR.out _ (HP.out.later HB1.out)).mono ?_;rintro e w5 ⟨rfl,hb5⟩;replace HB1:=zh (Bt HB1.out hb5);clear hb5 X cX lX;cases up<;>cases ex
    all_goals
     go_wp2_with fail
     refine (HI.out _ (HE.out.later HB1.out)).mono ?_;rintro e w6 ⟨rfl,hb6⟩;have hw:=Bt HB1.out hb6;go_wp2_with fail
     go_ret2
     exact ⟨rfl,hw⟩
   ·have hno:¬ uS n p q≤10^18:=Nat.not_le.2 (Oz q1 RS (Nat.not_lt.1 fun h=>h2 (tF.2 h)));rw [Bq hno];rw [show wS ((jC n p q:Nat):Int)= aD #[O ⟨#[]⟩,Z I 6] from by unfold wS;rw [Int.natAbs_natCast,if_neg h2]] at HM;clear ex ea h2 h1 hn0 hno;generalize 10^(12*(q - p))=t12 at *;generalize 12*(q - p)=c12 at *;generalize n^p=np at *;clear hn;unfold dA at *;generalize (⟨(Lib.itoa (n:Int)).toArray⟩:ByteArray)=tn at *;generalize (⟨(Lib.itoa (np:Int)).toArray⟩:ByteArray)=tnp at *;generalize (⟨(Lib.itoa (t12:Int)).toArray⟩:ByteArray)=XA at *;go_enter Tryz.func177,Tryz.ntmps177
    go_wp2_with fail
    obtain ⟨wx,EW,hz,X⟩:=EP w #[Z I (p:Int),Z I (q:Int)] 225;rw [EW];clear EW;have HB1:=zh hz;clear hz;obtain ⟨bx,eb⟩:∃ y,w.heap.size=y:=⟨_,rfl⟩;rw [eb] at X ⊢;obtain ⟨cX,lX⟩:=X.cl;refine aT [(.pure,0),(.pure,2),(.pure,3),(.read,4),(.ext,1),(.ext,5),(.pure,6),(.pure,7),(.pure,8),(.fin,9),(.fin,10)] zk zk zR zP ?_;refine zW ?_;refine aW rfl rfl (fun we hbe J hJ=>?_);go_simp;have h1:Below wx.heap.size wx we:=aN;refine (HO.out _ (HP.out.later (Bt HB1.out h1))).mono ?_;rintro e w1 ⟨rfl,hb1⟩;refine hJ _ _ hb1 ?_;clear hJ J;have h2:=Bt h1 hb1;clear h1 hbe hb1;refine aW rfl rfl (fun we hbe J hJ=>?_);go_simp;have h3:Below w1.heap.size w1 we:=aN;refine (GU.out _ (HP.out.later (Bt HB1.out (Bt h2 h3)))).mono ?_;rintro e w2 ⟨rfl,hb2⟩;refine hJ _ _ hb2 ?_;clear hJ J;have h4:=Bt h2 (Bt h3 hb2);clear h3 h2 hbe hb2;refine zV ?_
    refine dG [_,_] rfl (fun wf hbf=>?_);have h5:Below wx.heap.size wx wf:=Bt h4 aN;replace X:=X.bl h5;replace HB1:=zh (Bt HB1.out h5);clear h5 h4 hbf cX lX;obtain ⟨cX,lX⟩:=X.cl;go_wp2_with fail
    try rw [e12]
    refine (HT.out _).mono ?_;rintro e w3 ⟨rfl,hb3⟩;replace HB1:=zh (Bt HB1.out hb3);replace X:=X.bl hb3;clear hb3 cX lX;obtain ⟨cX,lX⟩:=X.cl;go_wp2_with fail
    refine (HM.out _ (HP.out.later HB1.out)).mono ?_;rintro e w4 ⟨rfl,hb4⟩;have hw:=Bt HB1.out hb4;go_wp2_with fail
    go_ret2
    exact ⟨rfl,hw⟩
  ·have g:decide ((p:Int)≤(q:Int))=false:=by simp;omega
   have e12:(12:Int)*((p:Int) - (q:Int))=((12*(p - q):Nat):Int):=by omega
   have h12:12*(p - q)≤420:=by omega
   have HT:=zh (fun W=>oP (12*(p - q)) zo W);have HM:=zh (fun W h=>yY (n^p) (10^(12*(p - q))) h1 (Iy zo) (oQ _) W h);have ea:=CS (n:=n) (p:=p) (q:=q) zo;rw [← ea] at HM;have ex:JH n p q=_:=Tv q1 zo
   have h2:kg (jC n p q)=true:=by
    rw [ea];exact nQ h1 (Nat.div_le_self _ _)
   ·have HR:=zh (fun W h=>sQ (jC n p q) q h2 q1 RS W h);have HI:=zh (fun W h=>rY (uS n p q) (up&& !(JH n p q)) (nQ h2 (mX q1)) W h);rw [Dt] at HI
    change Hid (∀ (W:World),gJ.Pow W→Calls _ _ _ _ (fun e w'=>e= ah (aD #[dA ((uS n p q:Nat):Int),ay (decide (uS n p q^q=jC n p q)),Z I 0])∧_)) at HR
    rw [ex] at HI;clear ex ea h2 h1 hn0;obtain ⟨v,Ev⟩:∃ v,u7 n p q up=v:=⟨_,rfl⟩;rw [Ev] at HI ⊢;obtain ⟨v1,v2⟩:=v;clear Ev;simp only at HI ⊢;have hz:=zero_eq (n^p%10^(12*(p - q)));rw [← hz] at HI;clear hz;generalize n^p%10^(12*(p - q))=rm at *;generalize 10^(12*(p - q))=t12 at *;generalize 12*(p - q)=c12 at *;generalize decide (uS n p q^q=jC n p q)=ex at *;generalize uS n p q=r at *;generalize jC n p q=a at *;generalize n^p=np at *;clear hn;unfold dA at *;generalize (⟨(Lib.itoa (n:Int)).toArray⟩:ByteArray)=tn at *;generalize (⟨(Lib.itoa (np:Int)).toArray⟩:ByteArray)=tnp at *;generalize (⟨(Lib.itoa (t12:Int)).toArray⟩:ByteArray)=XA at *;generalize (⟨(Lib.itoa (a:Int)).toArray⟩:ByteArray)=ta at *;generalize (⟨(Lib.itoa (r:Int)).toArray⟩:ByteArray)=tr at *;generalize (⟨(Lib.itoa (rm:Int)).toArray⟩:ByteArray)=tm at *;go_enter Tryz.func177,Tryz.ntmps177
    go_wp2_with fail
    obtain ⟨wx,EW,hz,X⟩:=EP w #[Z I (p:Int),Z I (q:Int)] 225;rw [EW];clear EW;have HB1:=zh hz;clear hz;obtain ⟨bx,eb⟩:∃ y,w.heap.size=y:=⟨_,rfl⟩;rw [eb] at X ⊢;obtain ⟨cX,lX⟩:=X.cl;refine aT [(.pure,0),(.pure,2),(.pure,3),(.read,4),(.ext,1),(.ext,5),(.pure,6),(.pure,7),(.pure,8),(.fin,9),(.fin,10)] zk zk zR zP ?_;refine zW ?_;refine aW rfl rfl (fun we hbe J hJ=>?_);go_simp;have h1:Below wx.heap.size wx we:=aN;refine (HO.out _ (HP.out.later (Bt HB1.out h1))).mono ?_;rintro e w1 ⟨rfl,hb1⟩;refine hJ _ _ hb1 ?_;clear hJ J;have h2:=Bt h1 hb1;clear h1 hbe hb1;refine aW rfl rfl (fun we hbe J hJ=>?_);go_simp;have h3:Below w1.heap.size w1 we:=aN;refine (GU.out _ (HP.out.later (Bt HB1.out (Bt h2 h3)))).mono ?_;rintro e w2 ⟨rfl,hb2⟩;refine hJ _ _ hb2 ?_;clear hJ J;have h4:=Bt h2 (Bt h3 hb2);clear h3 h2 hbe hb2;refine zV ?_
    refine dG [_,_] rfl (fun wf hbf=>?_);have h5:Below wx.heap.size wx wf:=Bt h4 aN;replace X:=X.bl h5;replace HB1:=zh (Bt HB1.out h5);clear h5 h4 hbf cX lX;obtain ⟨cX,lX⟩:=X.cl;go_wp2_with fail
    try rw [e12]
    refine (HT.out _).mono ?_;rintro e w3 ⟨rfl,hb3⟩;replace HB1:=zh (Bt HB1.out hb3);replace X:=X.bl hb3;clear hb3 cX lX;obtain ⟨cX,lX⟩:=X.cl;go_wp2_with fail
    refine (HM.out _ (HP.out.later HB1.out)).mono ?_;rintro e w4 ⟨rfl,hb4⟩;replace HB1:=zh (Bt HB1.out hb4);replace X:=X.bl hb4;clear hb4 cX lX;obtain ⟨cX,lX⟩:=X.cl;go_wp2_with fail
    refine (HR.out _ (HP.out.later HB1.out)).mono ?_;rintro e w5 ⟨rfl,hb5⟩;replace HB1:=zh (Bt HB1.out hb5);clear hb5 X cX lX;cases hz:(tm.toList == [48])<;>rw [hz] at HI<;>cases up<;>cases ex
    all_goals
     go_wp2_with fail
     refine (HI.out _ (HE.out.later HB1.out)).mono ?_;rintro e w6 ⟨rfl,hb6⟩;have hw:=Bt HB1.out hb6;go_wp2_with fail
     go_ret2
     exact ⟨rfl,hw⟩
 ·have hno:¬ uS n p q≤10^18:=Nat.not_le.2 (P6 q1 p36 RS (Nat.not_lt.1 fun h=>h1 (tF.2 h)));rw [Bq hno];rw [show wS ((n^p:Nat):Int)= aD #[O ⟨#[]⟩,Z I 6] from by unfold wS;rw [Int.natAbs_natCast,if_neg h1]] at GU;clear h1 hn0 hno hn;unfold dA at *;generalize (⟨(Lib.itoa (n:Int)).toArray⟩:ByteArray)=tn at *;go_enter Tryz.func177,Tryz.ntmps177
  go_wp2_with fail
  obtain ⟨wx,EW,hz,X⟩:=EP w #[Z I (p:Int),Z I (q:Int)] 225;rw [EW];clear EW;have HB1:=zh hz;clear hz;obtain ⟨bx,eb⟩:∃ y,w.heap.size=y:=⟨_,rfl⟩;rw [eb] at X ⊢;obtain ⟨cX,lX⟩:=X.cl;refine aT [(.pure,0),(.pure,2),(.pure,3),(.read,4),(.ext,1),(.ext,5),(.pure,6),(.pure,7),(.pure,8),(.fin,9),(.fin,10)] zk zk zR zP ?_;refine zW ?_;refine aW rfl rfl (fun we hbe J hJ=>?_);go_simp;have h1:Below wx.heap.size wx we:=aN;refine (HO.out _ (HP.out.later (Bt HB1.out h1))).mono ?_;rintro e w1 ⟨rfl,hb1⟩;refine hJ _ _ hb1 ?_;clear hJ J;have h2:=Bt h1 hb1;clear h1 hbe hb1;refine aW rfl rfl (fun we hbe J hJ=>?_);go_simp;have h3:Below w1.heap.size w1 we:=aN;refine (GU.out _ (HP.out.later (Bt HB1.out (Bt h2 h3)))).mono ?_;rintro e w2 ⟨rfl,hb2⟩;refine hJ _ _ hb2 ?_;clear hJ J;have h4:=Bt h2 (Bt h3 hb2);clear h3 h2 hbe hb2;refine zV ?_
  refine dG [_,_] rfl (fun wf hbf=>?_);have h5:Below wx.heap.size wx wf:=Bt h4 aN;replace X:=X.bl h5;replace HB1:=zh (Bt HB1.out h5);clear h5 h4 hbf cX lX;obtain ⟨cX,lX⟩:=X.cl;have hw:=HB1.out;go_wp2_with fail
  go_ret2
  exact ⟨rfl,hw⟩
end Go.Proofs.power
namespace Go.Proofs.power
open Go Go.RowKit Go.SW Go.Num Go.Mem Go.Proofs Go.Dec Go.gW Go.Proofs.whole Go.Proofs.aQ
def Bc (a b:Int × Int):(Int × Int) × Int:=if a.2≠0 then ((0,0),a.2) else if b.2≠0 then ((0,0),b.2) else if jc a.1 b.1 then ((a.1,b.1),0) else ((0,0),6)
theorem Iw (a b:Int × Int):JN a b=dH (Bc a b):=by
 unfold JN Bc dH
 by_cases h1:a.2=0<;>by_cases h2:b.2=0<;>cases h3:jc a.1 b.1<;>simp [h1,h2]
def O5 (lo hi p q:Int):(Int × Int) × Int:=if jc lo hi=false then ((0,0),30) else if Yu p q=false∨lo<0 then ((0,0),2) else Bc (u7 lo.toNat p.toNat q.toNat false) (u7 hi.toNat p.toNat q.toNat true)
theorem OG (lo hi p q:Int) (w:World) (ht:gJ.Pow w) (he:Er w) :
  Calls Tryz.prog 126 #[au #[Z I lo,Z I hi],Z I p,Z I q] w (fun e w'=>e= ah (dH (O5 lo hi p q))∧Below w.heap.size w w'):=by
 have HP:=zh ht;have HE:=zh he;have HC:=zh (fun W=>oM lo hi W);have HV:=zh (fun W=>ku p q W);clear ht he;generalize hz0:O5 lo hi p q=z at *;unfold O5 at hz0;obtain ⟨⟨z1,z2⟩,z3⟩:=z;unfold dH;simp only;go_enter Tryz.func126,Tryz.ntmps126
 go_wp2_with fail
 obtain ⟨wx,EW,hz,X,R⟩:=Sz w #[Z I lo,Z I hi] 35 #[Z I 0,Z I 0] 35;rw [EW];clear EW;have HB:=zh hz;clear hz;obtain ⟨bx,eb⟩:∃ y,w.heap.size=y:=⟨_,rfl⟩;rw [eb] at X R ⊢;refine (HC.out _).mono ?_;rintro e w1 ⟨rfl,hb1⟩;replace X:=X.bl hb1;replace R:=R.bl hb1;replace HB:=zh (Bt HB.out hb1);clear hb1 HC;obtain ⟨cX,lX⟩:=X.cl;cases hk:jc lo hi
 ·rw [hk,if_pos rfl] at hz0;cases hz0
  have hx:=R.out;have cx:=hx.cell;have fx:=hx.free;have lx:=hx.lt;have hw:=HB.out;go_wp2_with fail
  refine aY rfl rfl bf Tryz.underlying35 rfl zk ?_;exact ⟨rfl,aN⟩
 ·rw [hk,if_neg zi] at hz0;go_wp2_with fail
  obtain ⟨wy,EW,hz,Y⟩:=EP w1 #[Z I p,Z I q] 225;rw [EW];clear EW;replace HB:=zh (Bt HB.out hz);replace X:=X.bl hz;replace R:=R.bl hz;clear hz cX lX;obtain ⟨by',eb⟩:∃ y,w1.heap.size=y:=⟨_,rfl⟩;rw [eb] at Y ⊢;refine (HV.out _).mono ?_;rintro e w2 ⟨rfl,hb2⟩;replace HB:=zh (Bt HB.out hb2);replace X:=X.bl hb2;replace R:=R.bl hb2;replace Y:=Y.bl hb2;clear hb2 HV;obtain ⟨cX,lX⟩:=X.cl;obtain ⟨cY,lY⟩:=Y.cl;cases hv:Yu p q
  ·rw [hv,if_pos (Or.inl rfl)] at hz0;cases hz0
   have hx:=R.out;have cx:=hx.cell;have fx:=hx.free;have lx:=hx.lt;have hw:=HB.out;go_wp2_with fail
   refine aY rfl rfl bf Tryz.underlying35 rfl zk ?_;exact ⟨rfl,aN⟩
  ·by_cases h0:lo<0
   ·have g:decide (lo<0)=true:=decide_eq_true h0;rw [if_pos (Or.inr h0)] at hz0;cases hz0
    have hx:=R.out;have cx:=hx.cell;have fx:=hx.free;have lx:=hx.lt;have hw:=HB.out;go_wp2_with fail
    refine aY rfl rfl bf Tryz.underlying35 rfl zk ?_;exact ⟨rfl,aN⟩
   ·have g:decide (lo<0)=false:=decide_eq_false h0;rw [hv,if_neg (by simp [h0])] at hz0;obtain ⟨hp1,ad3,hq1,hq12⟩:1≤p∧p≤36∧1≤q∧q≤12:=by simpa [Yu] using hv
    obtain ⟨hk1,hk2,hk3⟩: -1000000000000000000≤lo∧lo≤hi∧hi≤1000000000000000000:=by simpa [jc] using hk
    have h18:(10:Nat)^18=1000000000000000000:=by decide
    have E1:=fun W (h:Below w2.heap.size w2 W)=>yF lo.toNat p.toNat q.toNat false (by rw [h18];omega) zo zo zo zo W (HP.out.later (Bt HB.out h)) (HE.out.later (Bt HB.out h));have E2:=fun W (h:Below w2.heap.size w2 W)=>yF hi.toNat p.toNat q.toNat true (by rw [h18];omega) zo zo zo zo W (HP.out.later (Bt HB.out h)) (HE.out.later (Bt HB.out h));simp only [Int.toNat_of_nonneg (show 0≤lo by omega),Int.toNat_of_nonneg (show 0≤hi by omega),Int.toNat_of_nonneg (show 0≤p by omega),Int.toNat_of_nonneg (show 0≤q by omega)] at E1 E2;have HO:=zh (FX lo hi (.func (.func 177) #[au #[Z I p,Z I q]] #[]) 177 #[au #[Z I p,Z I q]] #[] _ _ w2 rfl E1 E2 rfl (fun args W=>by rfl));rw [Iw,hz0] at HO;unfold dH at HO;clear hz0 E1 E2 h18 hp1 ad3 hq1 hq12 hk1 hk2 hk3 hv h0 hk;go_wp2_with fail
    refine HO.out.mono ?_;rintro e w3 ⟨rfl,hb3⟩;replace HB:=zh (Bt HB.out hb3);replace R:=R.bl hb3;clear hb3 HO X Y cX lX cY lY;have hx:=R.out;have cx:=hx.cell;have fx:=hx.free;have lx:=hx.lt;have hw:=HB.out;go_wp2_with fail
    refine aY rfl rfl bf Tryz.underlying35 rfl zk ?_;exact ⟨rfl,aN⟩
theorem BN (lo hi q:Int) (w:World) (ht:gJ.Pow w) (he:Er w) :
  Calls Tryz.prog 78 #[au #[Z I lo,Z I hi],Z I q] w (fun e w'=>e= ah (dH (O5 lo hi 1 q))∧Below w.heap.size w w'):=by
 have HP:=zh ht;have HE:=zh he;have H:=zh (fun W h1 h2=>OG lo hi 1 q W h1 h2);clear ht he;generalize O5 lo hi 1 q=z at *;obtain ⟨⟨z1,z2⟩,z3⟩:=z;unfold dH at *;simp only at *;go_enter Tryz.func78,Tryz.ntmps78
 go_wp2_with fail
 obtain ⟨wx,EW,hz,X,R⟩:=Sz w #[Z I lo,Z I hi] 35 #[Z I 0,Z I 0] 35;rw [EW];clear EW;have HB:=zh hz;clear hz;obtain ⟨bx,eb⟩:∃ y,w.heap.size=y:=⟨_,rfl⟩;rw [eb] at X R ⊢;refine (H.out _ (HP.out.later HB.out) (HE.out.later HB.out)).mono ?_;rintro e w1 ⟨rfl,hb1⟩;replace R:=R.bl hb1;replace HB:=zh (Bt HB.out hb1);clear hb1 X;have hx:=R.out;have cx:=hx.cell;have fx:=hx.free;have lx:=hx.lt;have hw:=HB.out;go_wp2_with fail
 refine aY rfl rfl bf Tryz.underlying35 rfl zk ?_;exact ⟨rfl,aN⟩
end Go.Proofs.power
namespace Go.Proofs.aQ
open Go Go.RowKit Go.SW Go.Num Go.Mem Go.Proofs Go.Dec Go.gW
theorem yF (n:Int) (s t:ByteArray) (w:World) (h1: -9223372036854775808≤n) (h2:n≤9223372036854775807) (ht:gJ.Pow w) (he:tH n 1000000000000=(⟨s,t⟩,0)) :
  Calls Tryz.prog 44 #[Z I n] w (fun e w'=>e= ah (aD #[au #[O s,O t],Z I 0])∧Below w.heap.size w w'):=by
 have H:=zh (fun W (h:gJ.Pow W)=>dD.qI n 1000000000000 h1 h2 zo zo W h);rw [he] at H;unfold Fr.res Fr.v at H;have HP:=zh ht;clear he ht h1 h2;go_enter Tryz.func44,Tryz.ntmps44
 go_wp2_with fail
 obtain ⟨wx,EW,hz,HR⟩:=EP w #[O ⟨#[]⟩,O ⟨#[]⟩] 29;rw [EW];clear EW;refine (H.out _ (HP.out.later hz)).mono ?_;rintro e w1 ⟨rfl,hb⟩;have hr:=HR.out.later hb;have cr:=hr.cell;have fr:=hr.free;have hw:=Bt hz hb;go_wp2_with fail
 refine aY rfl rfl ((hr.set 0 _).set 1 _) Tryz.underlying29 rfl zk ?_;exact ⟨rfl,(hw.setCell (p:=⟨w.heap.size,0,none⟩) (aI _) _).setCell (p:=⟨w.heap.size,1,none⟩) (aI _) _⟩
theorem DY (F:FuncId) (free:Array Value) (lo hi:Int) (s t:ByteArray) (q:Nat) (w:World) (hv:jc lo hi=true) (hq:aC w q #[Z I lo,Z I hi] 35)
  (h1:∀ W,Below w.heap.size w W→Calls Tryz.prog F free W (fun e w'=>e= ah (aD #[au #[O s,O t],Z I 0])∧Below W.heap.size W w'))
  (hen:∀ args W,(callFunc F args).run Tryz.prog W= .ok (.enter F args) W) :
  Calls Tryz.prog 42 #[.func (.func F) #[] free,aj (some ⟨q,0,none⟩) 1 1] w (fun e w'=>e= ah (aD #[au #[O s,O t],Z I 0])∧Below w.heap.size w w'):=by
 have HV:=zh (fun W=>hv ▸ ku lo hi W);have H1:=zh h1;clear h1 hv;go_enter Tryz.func42,Tryz.ntmps42
 go_wp2_with fail
 obtain ⟨wx,EW,hz,R⟩:=EP w #[O ⟨#[]⟩,O ⟨#[]⟩] 29;rw [EW];clear EW;have HB:=zh hz;have HQ:=zh (hq.later hz);clear hz hq;go_wp2_with fail
 go_loopw [11] (fun iv wr=>∃ k:Nat,iv= Z I (k:Int)∧k≤1∧Below wx.heap.size wx wr) (fun iv _=>1 - (intOf iv).toNat)
 case atStart=>exact ⟨0,rfl,by omega,Below.refl _ _⟩
 case round =>
  obtain ⟨k,rfl,hk,hb⟩:=hrel
  rcases aO k 1 with hlt|hge
  ·obtain rfl:k=0:=by omega
   have hq:=HQ.out.later hb;have cq:=hq.cell;have lq:=hq.lt;go_wp2_with fail
   obtain ⟨wy,EW,hz,Y⟩:=EP wr #[Z I lo,Z I hi] 35;rw [EW];clear EW;refine (HV.out _).mono ?_;rintro e w1 ⟨rfl,hb1⟩;have hw:=Bt hb (Bt hz hb1);clear hz hb1 Y cq lq hq;go_wp2_with fail
   go_roundw
   case rel=>exact ⟨1,by go_num,by omega,hw⟩
   case measure=>simp [intOf]<;>omega
  ·obtain rfl:k=1:=by omega
   have hB:=Bt HB.out hb;have hr0:=R.out.later hb;go_wp2_with fail
   refine (H1.out _ hB).mono ?_;rintro e w1 ⟨rfl,hb1⟩;have hw:=Bt hB hb1;have hr:=hr0.later hb1;have cr:=hr.cell;have fr:=hr.free;clear hb1 hr0;go_wp2_with fail
   refine aY rfl rfl ((hr.set 0 _).set 1 _) Tryz.underlying29 rfl zk ?_;exact ⟨rfl,(hw.setCell (p:=⟨w.heap.size,0,none⟩) (aI _) _).setCell (p:=⟨w.heap.size,1,none⟩) (aI _) _⟩
theorem Ro (lo hi:Int) (s t:ByteArray) (b:Nat) (w:World) (h:aC w b #[Z I lo,Z I hi] 35) (HE:∀ W,Below w.heap.size w W→Calls Tryz.prog 44 #[Z I lo] W (fun e w'=>e= ah (aD #[au #[O s,O t],Z I 0])∧Below W.heap.size W w')) :
  Calls Tryz.prog 43 #[aA (some ⟨b,0,none⟩)] w (fun e w'=>e= ah (aD #[au #[O s,O t],Z I 0])∧Below w.heap.size w w'):=by
 have H:=zh HE;clear HE;go_enter Tryz.func43,Tryz.ntmps43
 have hb:=h.alloc (.cells #[O ⟨#[]⟩,O ⟨#[]⟩] 29);have cb:=hb.cell;have lb:=hb.lt;go_wp2_with fail
 clear cb lb hb;obtain ⟨wx,EW,hz,HR⟩:=EP w #[O ⟨#[]⟩,O ⟨#[]⟩] 29;rw [EW];clear EW;refine (H.out _ hz).mono ?_;rintro e w1 ⟨rfl,hb1⟩;have hr:=HR.out.later hb1;have cr:=hr.cell;have fr:=hr.free;have hw:=Bt hz hb1;go_wp2_with fail
 refine aY rfl rfl ((hr.set 0 _).set 1 _) Tryz.underlying29 rfl zk ?_;exact ⟨rfl,(hw.setCell (p:=⟨w.heap.size,0,none⟩) (aI _) _).setCell (p:=⟨w.heap.size,1,none⟩) (aI _) _⟩
theorem Vl (lo hi:Int) (s t:ByteArray) (w:World) (hv:jc lo hi=true) (HE:∀ W,Below w.heap.size w W→Calls Tryz.prog 44 #[Z I lo] W (fun e w'=>e= ah (aD #[au #[O s,O t],Z I 0])∧Below W.heap.size W w')) :
  Calls Tryz.prog 15 #[au #[Z I lo,Z I hi]] w (fun e w'=>e= ah (aD #[au #[O s,O t],Z I 0])∧Below w.heap.size w w'):=by
 have H:Hid (∀ W b q,Below w.heap.size w W→aC W b #[Z I lo,Z I hi] 35→aC W q #[Z I lo,Z I hi] 35→Calls Tryz.prog 42 #[.func (.func 43) #[] #[aA (some ⟨b,0,none⟩)],aj (some ⟨q,0,none⟩) 1 1] W (fun e w'=>e= ah (aD #[au #[O s,O t],Z I 0])∧Below W.heap.size W w')):=zh fun W b q hW h1 h2 =>
  DY 43 #[aA (some ⟨b,0,none⟩)] lo hi s t q W hv h2 (fun W' hW'=>Ro lo hi s t b W' (h1.later hW') (fun W2 h3=>HE W2 (Bt hW (Bt hW' h3)))) (fun args W=>by rfl)
 clear HE hv;go_enter Tryz.func15,Tryz.ntmps15
 go_wp2_with fail
 obtain ⟨wx,EW,hz,X,R,bZ⟩:=Pf w #[Z I lo,Z I hi] 35 #[O ⟨#[]⟩,O ⟨#[]⟩] 29 #[Z I lo,Z I hi] 35;rw [EW];clear EW;refine (H.out _ _ _ hz X.out bZ.out).mono ?_;rintro e w1 ⟨rfl,hb1⟩;have hr:=R.out.later hb1;have cr:=hr.cell;have fr:=hr.free;have hw:=Bt hz hb1;clear H;go_wp2_with fail
 refine aY rfl rfl ((hr.set 0 _).set 1 _) Tryz.underlying29 rfl zk ?_;exact ⟨rfl,(hw.setCell (p:=⟨w.heap.size+1,0,none⟩) (by show w.heap.size≤w.heap.size+1;omega) _).setCell (p:=⟨w.heap.size+1,1,none⟩) (by show w.heap.size≤w.heap.size+1;omega) _⟩
end Go.Proofs.aQ
