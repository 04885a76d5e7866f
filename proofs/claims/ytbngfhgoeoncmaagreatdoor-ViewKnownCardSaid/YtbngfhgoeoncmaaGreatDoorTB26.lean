/- Lemmas for the proof. No condition. -/
import Derived.Test.YtbngfhgoeoncmaaGreatDoorTB13
import Derived.Test.YtbngfhgoeoncmaaGreatDoorTB25
set_option linter.unusedVariables false
set_option linter.unusedSimpArgs false
set_option maxRecDepth 100000
set_option maxHeartbeats 16000000
open Go.Ending renaming returned → ah
open Go.IntKind renaming i64 → I
open Go.Value renaming agg → aB, bool → aC, int → Z, pointer → au, slice → aj, string → O, tuple → aF
open Nat renaming le_refl → aG, lt_or_ge → aH
namespace Go.Proofs.power
open Go Go.RowKit Go.SW Go.Num Go.Mem Go.Proofs Go.Dec Go.d9 Go.Proofs.whole
theorem NW {c k:Nat} (h:c<k):10^c<jT k:=by
 unfold jT;exact Nat.pow_lt_pow_right zo h
theorem J9 {c:Nat} (h:c<600):mQ (10^c)=true:=by
 unfold mQ;exact decide_eq_true (NW h)
theorem CV {n:Nat}:mQ n=true↔n<10^600:=by
 unfold mQ jT;exact decide_eq_true_iff
theorem zero_eq (b:Nat):((⟨(Lib.itoa (b:Int)).toArray⟩:ByteArray).toList == [48])=decide (b=0):=by
 have:= @Kn b 0
 have e:(⟨(Lib.itoa ((0:Nat):Int)).toArray⟩:ByteArray).toList=[48]:=by
  rw [ByteArray.toList_eq]
  show Lib.itoa ((0:Nat):Int)=[48]
  decide+kernel
 rw [e] at this;exact this
theorem Dk {n p q:Nat} {up:Bool} (h:¬ nV n p q≤10^18):xL n p q up=(0,6):=by
 unfold xL;rw [if_neg h]
theorem FP {n p q:Nat} {up:Bool}:Mr (nV n p q) (up&& !(J7 n p q))=xL n p q up:=by
 by_cases h:nV n p q≤10^18
 ·rw [TB h];unfold Mr;rw [if_pos h]
 ·rw [Dk h];unfold Mr;rw [if_neg h]
theorem Dj (n p q:Nat) (up:Bool) (hn:n≤10^18) (p1:1≤p) (p36:p≤36) (q1:1≤q) (UA:q≤12) (w:World) (ht:iA.Pow w) (he:Er w) :
  Calls Tryz.prog 52 #[aB #[Z I (p:Int),Z I (q:Int)],Z I (n:Int),aC up] w (fun e w'=>e= ah (aF #[Z I (xL n p q up).1,Z I (xL n p q up).2])∧Below w.heap.size w w'):=by
 have hn0:mQ n=true:=CV.2 (Nat.lt_of_le_of_lt hn (by decide+kernel))
 have h63:(n:Int)≤9223372036854775807:=by
  have:(10:Nat)^18=1000000000000000000:=by decide
  omega
 have HO:=zh (fun W h=>OP (n:Int) zo h63 W h);have Lc:=zh (fun W h=>wm n p hn0 zo W h);have HP:=zh ht;have HE:=zh he;clear ht he h63
 by_cases h1:mQ (n^p)=true
 ·rw [vG h1] at Lc
  by_cases hpq:p≤q
  ·have g:decide ((p:Int)≤(q:Int))=true:=by simp;omega
   have e12:(12:Int)*((q:Int) - (p:Int))=((12*(q - p):Nat):Int):=by omega
   have h12:12*(q - p)≤132:=by omega
   have HT:=zh (fun W=>pW (12*(q - p)) zo W);have HM:=zh (fun W h=>wu (n^p) (10^(12*(q - p))) h1 (J9 zo) W h);have ea:=Fp (n:=n) hpq;rw [← ea] at HM;have ex:J7 n p q=_:=V9 hpq
   by_cases h2:mQ (jr n p q)=true
   ·rw [vG h2] at HM;have HR:=zh (fun W h=>xU (jr n p q) q h2 q1 UA W h);have HI:=zh (fun W h=>zY (nV n p q) (up&& !(J7 n p q)) (rA h2 (qj q1)) W h);rw [FP] at HI
    change Hid (∀ (W:World),iA.Pow W→Calls _ _ _ _ (fun e w'=>e= ah (aF #[dX ((nV n p q:Nat):Int),aC (decide (nV n p q^q=jr n p q)),Z I 0])∧_)) at HR
    rw [← ex] at HR;clear ex ea h2 h1 hn0;obtain ⟨v,Ev⟩:∃ v,xL n p q up=v:=⟨_,rfl⟩;rw [Ev] at HI ⊢;obtain ⟨v1,v2⟩:=v;clear Ev;simp only at HI ⊢;generalize 10^(12*(q - p))=t12 at *;generalize 12*(q - p)=c12 at *;generalize J7 n p q=ex at *;generalize nV n p q=r at *;generalize jr n p q=a at *;generalize n^p=np at *;clear hn;unfold dX at *;generalize (⟨(Lib.itoa (n:Int)).toArray⟩:ByteArray)=tn at *;generalize (⟨(Lib.itoa (np:Int)).toArray⟩:ByteArray)=tnp at *;generalize (⟨(Lib.itoa (t12:Int)).toArray⟩:ByteArray)=Zz at *;generalize (⟨(Lib.itoa (a:Int)).toArray⟩:ByteArray)=ta at *;generalize (⟨(Lib.itoa (r:Int)).toArray⟩:ByteArray)=tr at *;go_enter Tryz.func52,Tryz.ntmps52
    go_wp2_with fail
    obtain ⟨wx,EW,hz,X⟩:=Nf w #[Z I (p:Int),Z I (q:Int)] 107;rw [EW];clear EW;have HB1:=zh hz;clear hz;obtain ⟨bx,eb⟩:∃ y,w.heap.size=y:=⟨_,rfl⟩;rw [eb] at X ⊢;obtain ⟨cX,lX⟩:=X.cl;refine aQ [(.pure,0),(.pure,2),(.pure,3),(.read,4),(.ext,1),(.ext,5),(.pure,6),(.pure,7),(.pure,8),(.fin,9),(.fin,10)] zk zk zR zP ?_;refine zW ?_;refine aN rfl rfl (fun we hbe J hJ=>?_);go_simp;have h1:Below wx.heap.size wx we:=aO;refine (HO.out _ (HP.out.later (Bt HB1.out h1))).mono ?_;rintro e w1 ⟨rfl,hb1⟩;refine hJ _ _ hb1 ?_;clear hJ J;have h2:=Bt h1 hb1;clear h1 hbe hb1;refine aN rfl rfl (fun we hbe J hJ=>?_);go_simp;have h3:Below w1.heap.size w1 we:=aO;refine (Lc.out _ (HP.out.later (Bt HB1.out (Bt h2 h3)))).mono ?_;rintro e w2 ⟨rfl,hb2⟩;refine hJ _ _ hb2 ?_;clear hJ J;have h4:=Bt h2 (Bt h3 hb2);clear h3 h2 hbe hb2;refine zV ?_
    refine bT [_,_] rfl (fun wf hbf=>?_);have h5:Below wx.heap.size wx wf:=Bt h4 aO;replace X:=X.bl h5;replace HB1:=zh (Bt HB1.out h5);clear h5 h4 hbf cX lX;obtain ⟨cX,lX⟩:=X.cl;go_wp2_with fail
    try rw [e12]
    refine (HT.out _).mono ?_;rintro e w3 ⟨rfl,hb3⟩;replace HB1:=zh (Bt HB1.out hb3);replace X:=X.bl hb3;clear hb3 cX lX;obtain ⟨cX,lX⟩:=X.cl;go_wp2_with fail
    refine (HM.out _ (HP.out.later HB1.out)).mono ?_;rintro e w4 ⟨rfl,hb4⟩;replace HB1:=zh (Bt HB1.out hb4);replace X:=X.bl hb4;clear hb4 cX lX;obtain ⟨cX,lX⟩:=X.cl;go_wp2_with fail
    refine (HR.out _ (HP.out.later HB1.out)).mono ?_;rintro e w5 ⟨rfl,hb5⟩;replace HB1:=zh (Bt HB1.out hb5);clear hb5 X cX lX;cases up<;>cases ex
    all_goals
     go_wp2_with fail
     refine (HI.out _ (HE.out.later HB1.out)).mono ?_;rintro e w6 ⟨rfl,hb6⟩;have hw:=Bt HB1.out hb6;go_wp2_with fail
     go_ret2
     exact ⟨rfl,hw⟩
   ·have hno:¬ nV n p q≤10^18:=Nat.not_le.2 (QE q1 UA (Nat.not_lt.1 fun h=>h2 (CV.2 h)));rw [Dk hno];rw [show DW ((jr n p q:Nat):Int)= aF #[O ⟨#[]⟩,Z I 6] from by unfold DW;rw [Int.natAbs_natCast,if_neg h2]] at HM;clear ex ea h2 h1 hn0 hno;generalize 10^(12*(q - p))=t12 at *;generalize 12*(q - p)=c12 at *;generalize n^p=np at *;clear hn;unfold dX at *;generalize (⟨(Lib.itoa (n:Int)).toArray⟩:ByteArray)=tn at *;generalize (⟨(Lib.itoa (np:Int)).toArray⟩:ByteArray)=tnp at *;generalize (⟨(Lib.itoa (t12:Int)).toArray⟩:ByteArray)=Zz at *;go_enter Tryz.func52,Tryz.ntmps52
    go_wp2_with fail
    obtain ⟨wx,EW,hz,X⟩:=Nf w #[Z I (p:Int),Z I (q:Int)] 107;rw [EW];clear EW;have HB1:=zh hz;clear hz;obtain ⟨bx,eb⟩:∃ y,w.heap.size=y:=⟨_,rfl⟩;rw [eb] at X ⊢;obtain ⟨cX,lX⟩:=X.cl;refine aQ [(.pure,0),(.pure,2),(.pure,3),(.read,4),(.ext,1),(.ext,5),(.pure,6),(.pure,7),(.pure,8),(.fin,9),(.fin,10)] zk zk zR zP ?_;refine zW ?_;refine aN rfl rfl (fun we hbe J hJ=>?_);go_simp;have h1:Below wx.heap.size wx we:=aO;refine (HO.out _ (HP.out.later (Bt HB1.out h1))).mono ?_;rintro e w1 ⟨rfl,hb1⟩;refine hJ _ _ hb1 ?_;clear hJ J;have h2:=Bt h1 hb1;clear h1 hbe hb1;refine aN rfl rfl (fun we hbe J hJ=>?_);go_simp;have h3:Below w1.heap.size w1 we:=aO;refine (Lc.out _ (HP.out.later (Bt HB1.out (Bt h2 h3)))).mono ?_;rintro e w2 ⟨rfl,hb2⟩;refine hJ _ _ hb2 ?_;clear hJ J;have h4:=Bt h2 (Bt h3 hb2);clear h3 h2 hbe hb2;refine zV ?_
    refine bT [_,_] rfl (fun wf hbf=>?_);have h5:Below wx.heap.size wx wf:=Bt h4 aO;replace X:=X.bl h5;replace HB1:=zh (Bt HB1.out h5);clear h5 h4 hbf cX lX;obtain ⟨cX,lX⟩:=X.cl;go_wp2_with fail
    try rw [e12]
    refine (HT.out _).mono ?_;rintro e w3 ⟨rfl,hb3⟩;replace HB1:=zh (Bt HB1.out hb3);replace X:=X.bl hb3;clear hb3 cX lX;obtain ⟨cX,lX⟩:=X.cl;go_wp2_with fail
    refine (HM.out _ (HP.out.later HB1.out)).mono ?_;rintro e w4 ⟨rfl,hb4⟩;have hw:=Bt HB1.out hb4;go_wp2_with fail
    go_ret2
    exact ⟨rfl,hw⟩
  ·have g:decide ((p:Int)≤(q:Int))=false:=by simp;omega
   have e12:(12:Int)*((p:Int) - (q:Int))=((12*(p - q):Nat):Int):=by omega
   have h12:12*(p - q)≤420:=by omega
   have HT:=zh (fun W=>pW (12*(p - q)) zo W);have HM:=zh (fun W h=>wC (n^p) (10^(12*(p - q))) h1 (J9 zo) (nY _) W h);have ea:=Fq (n:=n) (p:=p) (q:=q) zo;rw [← ea] at HM;have ex:J7 n p q=_:=Wd q1 zo
   have h2:mQ (jr n p q)=true:=by
    rw [ea];exact rA h1 (Nat.div_le_self _ _)
   ·have HR:=zh (fun W h=>xU (jr n p q) q h2 q1 UA W h);have HI:=zh (fun W h=>zY (nV n p q) (up&& !(J7 n p q)) (rA h2 (qj q1)) W h);rw [FP] at HI
    change Hid (∀ (W:World),iA.Pow W→Calls _ _ _ _ (fun e w'=>e= ah (aF #[dX ((nV n p q:Nat):Int),aC (decide (nV n p q^q=jr n p q)),Z I 0])∧_)) at HR
    rw [ex] at HI;clear ex ea h2 h1 hn0;obtain ⟨v,Ev⟩:∃ v,xL n p q up=v:=⟨_,rfl⟩;rw [Ev] at HI ⊢;obtain ⟨v1,v2⟩:=v;clear Ev;simp only at HI ⊢;have hz:=zero_eq (n^p%10^(12*(p - q)));rw [← hz] at HI;clear hz;generalize n^p%10^(12*(p - q))=rm at *;generalize 10^(12*(p - q))=t12 at *;generalize 12*(p - q)=c12 at *;generalize decide (nV n p q^q=jr n p q)=ex at *;generalize nV n p q=r at *;generalize jr n p q=a at *;generalize n^p=np at *;clear hn;unfold dX at *;generalize (⟨(Lib.itoa (n:Int)).toArray⟩:ByteArray)=tn at *;generalize (⟨(Lib.itoa (np:Int)).toArray⟩:ByteArray)=tnp at *;generalize (⟨(Lib.itoa (t12:Int)).toArray⟩:ByteArray)=Zz at *;generalize (⟨(Lib.itoa (a:Int)).toArray⟩:ByteArray)=ta at *;generalize (⟨(Lib.itoa (r:Int)).toArray⟩:ByteArray)=tr at *;generalize (⟨(Lib.itoa (rm:Int)).toArray⟩:ByteArray)=tm at *;go_enter Tryz.func52,Tryz.ntmps52
    go_wp2_with fail
    obtain ⟨wx,EW,hz,X⟩:=Nf w #[Z I (p:Int),Z I (q:Int)] 107;rw [EW];clear EW;have HB1:=zh hz;clear hz;obtain ⟨bx,eb⟩:∃ y,w.heap.size=y:=⟨_,rfl⟩;rw [eb] at X ⊢;obtain ⟨cX,lX⟩:=X.cl;refine aQ [(.pure,0),(.pure,2),(.pure,3),(.read,4),(.ext,1),(.ext,5),(.pure,6),(.pure,7),(.pure,8),(.fin,9),(.fin,10)] zk zk zR zP ?_;refine zW ?_;refine aN rfl rfl (fun we hbe J hJ=>?_);go_simp;have h1:Below wx.heap.size wx we:=aO;refine (HO.out _ (HP.out.later (Bt HB1.out h1))).mono ?_;rintro e w1 ⟨rfl,hb1⟩;refine hJ _ _ hb1 ?_;clear hJ J;have h2:=Bt h1 hb1;clear h1 hbe hb1;refine aN rfl rfl (fun we hbe J hJ=>?_);go_simp;have h3:Below w1.heap.size w1 we:=aO;refine (Lc.out _ (HP.out.later (Bt HB1.out (Bt h2 h3)))).mono ?_;rintro e w2 ⟨rfl,hb2⟩;refine hJ _ _ hb2 ?_;clear hJ J;have h4:=Bt h2 (Bt h3 hb2);clear h3 h2 hbe hb2;refine zV ?_
    refine bT [_,_] rfl (fun wf hbf=>?_);have h5:Below wx.heap.size wx wf:=Bt h4 aO;replace X:=X.bl h5;replace HB1:=zh (Bt HB1.out h5);clear h5 h4 hbf cX lX;obtain ⟨cX,lX⟩:=X.cl;go_wp2_with fail
    try rw [e12]
    refine (HT.out _).mono ?_;rintro e w3 ⟨rfl,hb3⟩;replace HB1:=zh (Bt HB1.out hb3);replace X:=X.bl hb3;clear hb3 cX lX;obtain ⟨cX,lX⟩:=X.cl;go_wp2_with fail
    refine (HM.out _ (HP.out.later HB1.out)).mono ?_;rintro e w4 ⟨rfl,hb4⟩;replace HB1:=zh (Bt HB1.out hb4);replace X:=X.bl hb4;clear hb4 cX lX;obtain ⟨cX,lX⟩:=X.cl;go_wp2_with fail
    refine (HR.out _ (HP.out.later HB1.out)).mono ?_;rintro e w5 ⟨rfl,hb5⟩;replace HB1:=zh (Bt HB1.out hb5);clear hb5 X cX lX;cases hz:(tm.toList == [48])<;>rw [hz] at HI<;>cases up<;>cases ex
    all_goals
     go_wp2_with fail
     refine (HI.out _ (HE.out.later HB1.out)).mono ?_;rintro e w6 ⟨rfl,hb6⟩;have hw:=Bt HB1.out hb6;go_wp2_with fail
     go_ret2
     exact ⟨rfl,hw⟩
 ·have hno:¬ nV n p q≤10^18:=Nat.not_le.2 (Sg q1 p36 UA (Nat.not_lt.1 fun h=>h1 (CV.2 h)));rw [Dk hno];rw [show DW ((n^p:Nat):Int)= aF #[O ⟨#[]⟩,Z I 6] from by unfold DW;rw [Int.natAbs_natCast,if_neg h1]] at Lc;clear h1 hn0 hno hn;unfold dX at *;generalize (⟨(Lib.itoa (n:Int)).toArray⟩:ByteArray)=tn at *;go_enter Tryz.func52,Tryz.ntmps52
  go_wp2_with fail
  obtain ⟨wx,EW,hz,X⟩:=Nf w #[Z I (p:Int),Z I (q:Int)] 107;rw [EW];clear EW;have HB1:=zh hz;clear hz;obtain ⟨bx,eb⟩:∃ y,w.heap.size=y:=⟨_,rfl⟩;rw [eb] at X ⊢;obtain ⟨cX,lX⟩:=X.cl;refine aQ [(.pure,0),(.pure,2),(.pure,3),(.read,4),(.ext,1),(.ext,5),(.pure,6),(.pure,7),(.pure,8),(.fin,9),(.fin,10)] zk zk zR zP ?_;refine zW ?_;refine aN rfl rfl (fun we hbe J hJ=>?_);go_simp;have h1:Below wx.heap.size wx we:=aO;refine (HO.out _ (HP.out.later (Bt HB1.out h1))).mono ?_;rintro e w1 ⟨rfl,hb1⟩;refine hJ _ _ hb1 ?_;clear hJ J;have h2:=Bt h1 hb1;clear h1 hbe hb1;refine aN rfl rfl (fun we hbe J hJ=>?_);go_simp;have h3:Below w1.heap.size w1 we:=aO;refine (Lc.out _ (HP.out.later (Bt HB1.out (Bt h2 h3)))).mono ?_;rintro e w2 ⟨rfl,hb2⟩;refine hJ _ _ hb2 ?_;clear hJ J;have h4:=Bt h2 (Bt h3 hb2);clear h3 h2 hbe hb2;refine zV ?_
  refine bT [_,_] rfl (fun wf hbf=>?_);have h5:Below wx.heap.size wx wf:=Bt h4 aO;replace X:=X.bl h5;replace HB1:=zh (Bt HB1.out h5);clear h5 h4 hbf cX lX;obtain ⟨cX,lX⟩:=X.cl;have hw:=HB1.out;go_wp2_with fail
  go_ret2
  exact ⟨rfl,hw⟩
end Go.Proofs.power
namespace Go.Proofs.power
open Go Go.RowKit Go.SW Go.Num Go.Mem Go.Proofs Go.Dec Go.d9 Go.Proofs.whole Go.Proofs.dR
def Sk (a b:Int × Int):(Int × Int) × Int:=if a.2≠0 then ((0,0),a.2) else if b.2≠0 then ((0,0),b.2) else if jy a.1 b.1 then ((a.1,b.1),0) else ((0,0),6)
theorem Sm (a b:Int × Int):Sn a b=ig (Sk a b):=by
 unfold Sn Sk ig
 by_cases h1:a.2=0<;>by_cases h2:b.2=0<;>cases h3:jy a.1 b.1<;>simp [h1,h2]
def LU (lo hi p q:Int):(Int × Int) × Int:=if jy lo hi=false then ((0,0),30) else if YL p q=false∨lo<0 then ((0,0),2) else Sk (xL lo.toNat p.toNat q.toNat false) (xL hi.toNat p.toNat q.toNat true)
theorem Hf (lo hi p q:Int) (w:World) (ht:iA.Pow w) (he:Er w) :
  Calls Tryz.prog 24 #[aB #[Z I lo,Z I hi],Z I p,Z I q] w (fun e w'=>e= ah (ig (LU lo hi p q))∧Below w.heap.size w w'):=by
 have HP:=zh ht;have HE:=zh he;have HC:=zh (fun W=>jJ lo hi W);have HV:=zh (fun W=>mD p q W);clear ht he;generalize hz0:LU lo hi p q=z at *;unfold LU at hz0;obtain ⟨⟨z1,z2⟩,z3⟩:=z;unfold ig;simp only;go_enter Tryz.func24,Tryz.ntmps24
 go_wp2_with fail
 obtain ⟨wx,EW,hz,X,R⟩:=al2 w #[Z I lo,Z I hi] 26 #[Z I 0,Z I 0] 26;rw [EW];clear EW;have HB:=zh hz;clear hz;obtain ⟨bx,eb⟩:∃ y,w.heap.size=y:=⟨_,rfl⟩;rw [eb] at X R ⊢;refine (HC.out _).mono ?_;rintro e w1 ⟨rfl,hb1⟩;replace X:=X.bl hb1;replace R:=R.bl hb1;replace HB:=zh (Bt HB.out hb1);clear hb1 HC;obtain ⟨cX,lX⟩:=X.cl;cases hk:jy lo hi
 ·rw [hk,if_pos rfl] at hz0;cases hz0
  have hx:=R.out;have cx:=hx.cell;have fx:=hx.free;have lx:=hx.lt;have hw:=HB.out;go_wp2_with fail
  refine bE rfl rfl aY Tryz.underlying26 rfl zk ?_;exact ⟨rfl,aO⟩
 ·rw [hk,if_neg zi] at hz0;go_wp2_with fail
  obtain ⟨wy,EW,hz,Y⟩:=Nf w1 #[Z I p,Z I q] 107;rw [EW];clear EW;replace HB:=zh (Bt HB.out hz);replace X:=X.bl hz;replace R:=R.bl hz;clear hz cX lX;obtain ⟨by',eb⟩:∃ y,w1.heap.size=y:=⟨_,rfl⟩;rw [eb] at Y ⊢;refine (HV.out _).mono ?_;rintro e w2 ⟨rfl,hb2⟩;replace HB:=zh (Bt HB.out hb2);replace X:=X.bl hb2;replace R:=R.bl hb2;replace Y:=Y.bl hb2;clear hb2 HV;obtain ⟨cX,lX⟩:=X.cl;obtain ⟨cY,lY⟩:=Y.cl;cases hv:YL p q
  ·rw [hv,if_pos (Or.inl rfl)] at hz0;cases hz0
   have hx:=R.out;have cx:=hx.cell;have fx:=hx.free;have lx:=hx.lt;have hw:=HB.out;go_wp2_with fail
   refine bE rfl rfl aY Tryz.underlying26 rfl zk ?_;exact ⟨rfl,aO⟩
  ·by_cases h0:lo<0
   ·have g:decide (lo<0)=true:=decide_eq_true h0;rw [if_pos (Or.inr h0)] at hz0;cases hz0
    have hx:=R.out;have cx:=hx.cell;have fx:=hx.free;have lx:=hx.lt;have hw:=HB.out;go_wp2_with fail
    refine bE rfl rfl aY Tryz.underlying26 rfl zk ?_;exact ⟨rfl,aO⟩
   ·have g:decide (lo<0)=false:=decide_eq_false h0;rw [hv,if_neg (by simp [h0])] at hz0;obtain ⟨hp1,ak5,hq1,hq12⟩:1≤p∧p≤36∧1≤q∧q≤12:=by simpa [YL] using hv
    obtain ⟨hk1,hk2,hk3⟩: -1000000000000000000≤lo∧lo≤hi∧hi≤1000000000000000000:=by simpa [jy] using hk
    have h18:(10:Nat)^18=1000000000000000000:=by decide
    have E1:=fun W (h:Below w2.heap.size w2 W)=>Dj lo.toNat p.toNat q.toNat false (by rw [h18];omega) zo zo zo zo W (HP.out.later (Bt HB.out h)) (HE.out.later (Bt HB.out h));have E2:=fun W (h:Below w2.heap.size w2 W)=>Dj hi.toNat p.toNat q.toNat true (by rw [h18];omega) zo zo zo zo W (HP.out.later (Bt HB.out h)) (HE.out.later (Bt HB.out h));simp only [Int.toNat_of_nonneg (show 0≤lo by omega),Int.toNat_of_nonneg (show 0≤hi by omega),Int.toNat_of_nonneg (show 0≤p by omega),Int.toNat_of_nonneg (show 0≤q by omega)] at E1 E2;have HO:=zh (IG lo hi (.func (.func 52) #[aB #[Z I p,Z I q]] #[]) 52 #[aB #[Z I p,Z I q]] #[] _ _ w2 rfl E1 E2 rfl (fun args W=>by rfl));rw [Sm,hz0] at HO;unfold ig at HO;clear hz0 E1 E2 h18 hp1 ak5 hq1 hq12 hk1 hk2 hk3 hv h0 hk;go_wp2_with fail
    refine HO.out.mono ?_;rintro e w3 ⟨rfl,hb3⟩;replace HB:=zh (Bt HB.out hb3);replace R:=R.bl hb3;clear hb3 HO X Y cX lX cY lY;have hx:=R.out;have cx:=hx.cell;have fx:=hx.free;have lx:=hx.lt;have hw:=HB.out;go_wp2_with fail
    refine bE rfl rfl aY Tryz.underlying26 rfl zk ?_;exact ⟨rfl,aO⟩
theorem DI (lo hi q:Int) (w:World) (ht:iA.Pow w) (he:Er w) :
  Calls Tryz.prog 83 #[aB #[Z I lo,Z I hi],Z I q] w (fun e w'=>e= ah (ig (LU lo hi 1 q))∧Below w.heap.size w w'):=by
 have HP:=zh ht;have HE:=zh he;have H:=zh (fun W h1 h2=>Hf lo hi 1 q W h1 h2);clear ht he;generalize LU lo hi 1 q=z at *;obtain ⟨⟨z1,z2⟩,z3⟩:=z;unfold ig at *;simp only at *;go_enter Tryz.func83,Tryz.ntmps83
 go_wp2_with fail
 obtain ⟨wx,EW,hz,X,R⟩:=al2 w #[Z I lo,Z I hi] 26 #[Z I 0,Z I 0] 26;rw [EW];clear EW;have HB:=zh hz;clear hz;obtain ⟨bx,eb⟩:∃ y,w.heap.size=y:=⟨_,rfl⟩;rw [eb] at X R ⊢;refine (H.out _ (HP.out.later HB.out) (HE.out.later HB.out)).mono ?_;rintro e w1 ⟨rfl,hb1⟩;replace R:=R.bl hb1;replace HB:=zh (Bt HB.out hb1);clear hb1 X;have hx:=R.out;have cx:=hx.cell;have fx:=hx.free;have lx:=hx.lt;have hw:=HB.out;go_wp2_with fail
 refine bE rfl rfl aY Tryz.underlying26 rfl zk ?_;exact ⟨rfl,aO⟩
end Go.Proofs.power
namespace Go.Proofs.dR
open Go Go.RowKit Go.SW Go.Num Go.Mem Go.Proofs Go.Dec Go.d9
theorem Dj (n:Int) (s t:ByteArray) (w:World) (h1: -9223372036854775808≤n) (h2:n≤9223372036854775807) (ht:iA.Pow w) (he:oh n 1000000000000=(⟨s,t⟩,0)) :
  Calls Tryz.prog 47 #[Z I n] w (fun e w'=>e= ah (aF #[aB #[O s,O t],Z I 0])∧Below w.heap.size w w'):=by
 have H:=zh (fun W (h:iA.Pow W)=>dw.vD n 1000000000000 h1 h2 zo zo W h);rw [he] at H;unfold Fr.res Fr.v at H;have HP:=zh ht;clear he ht h1 h2;go_enter Tryz.func47,Tryz.ntmps47
 go_wp2_with fail
 obtain ⟨wx,EW,hz,HR⟩:=Nf w #[O ⟨#[]⟩,O ⟨#[]⟩] 38;rw [EW];clear EW;refine (H.out _ (HP.out.later hz)).mono ?_;rintro e w1 ⟨rfl,hb⟩;have hr:=HR.out.later hb;have cr:=hr.cell;have fr:=hr.free;have hw:=Bt hz hb;go_wp2_with fail
 refine bE rfl rfl ((hr.set 0 _).set 1 _) Tryz.underlying38 rfl zk ?_;exact ⟨rfl,(hw.setCell (p:=⟨w.heap.size,0,none⟩) (aG _) _).setCell (p:=⟨w.heap.size,1,none⟩) (aG _) _⟩
theorem Qv (F:FuncId) (free:Array Value) (lo hi:Int) (q:Nat) (w:World) (hv:jy lo hi=true) (hq:aA w q #[Z I lo,Z I hi] 26)
  (h1:∀ W,Below w.heap.size w W→Calls Tryz.prog F free W (fun e w'=>e= ah (aF #[aC true,Z I 0])∧Below W.heap.size W w'))
  (hen:∀ args W,(callFunc F args).run Tryz.prog W= .ok (.enter F args) W) :
  Calls Tryz.prog 45 #[.func (.func F) #[] free,aj (some ⟨q,0,none⟩) 1 1] w (fun e w'=>e= ah (aF #[aC true,Z I 0])∧Below w.heap.size w w'):=by
 have HV:=zh (fun W=>hv ▸ mD lo hi W);have H1:=zh h1;have HQ:=zh hq;clear h1 hv hq;go_enter Tryz.func45,Tryz.ntmps45
 obtain ⟨wx,EWX⟩:∃ y,y=w:=⟨_,rfl⟩;subst EWX;go_wp2_with fail
 go_loopw [11] (fun iv wr=>∃ k:Nat,iv= Z I (k:Int)∧k≤1∧Below wx.heap.size wx wr) (fun iv _=>1 - (intOf iv).toNat)
 case atStart=>exact ⟨0,rfl,by omega,Below.refl _ _⟩
 case round =>
  obtain ⟨k,rfl,hk,hb⟩:=hrel
  rcases aH k 1 with hlt|hge
  ·obtain rfl:k=0:=by omega
   have hq:=HQ.out.later hb;have cq:=hq.cell;have lq:=hq.lt;go_wp2_with fail
   obtain ⟨wy,EW,hz,Y⟩:=Nf wr #[Z I lo,Z I hi] 26;rw [EW];clear EW;refine (HV.out _).mono ?_;rintro e w1 ⟨rfl,hb1⟩;have hw:=Bt hb (Bt hz hb1);clear hz hb1 Y cq lq hq;go_wp2_with fail
   go_roundw
   case rel=>exact ⟨1,by go_num,by omega,hw⟩
   case measure=>simp [intOf]<;>omega
  ·obtain rfl:k=1:=by omega
   go_wp2_with fail
   refine (H1.out _ hb).mono ?_;rintro e w1 ⟨rfl,hb1⟩;go_wp2_with fail
   go_ret2
   exact ⟨rfl,Bt hb hb1⟩
theorem Uj (lo hi o1 o2:Int) (s t s1 t1 s2 t2:ByteArray) (b q:Nat) (w:World) (ho1:0≤o1) (ho2:o2≤0) (h:aA w b #[Z I lo,Z I hi] 26) (hq:aA w q #[O s,O t] 38)
  (H7:∀ W,Below w.heap.size w W→Calls Tryz.prog 47 #[Z I lo] W (fun e w'=>e= ah (aF #[aB #[O s1,O t1],Z I 0])∧Below W.heap.size W w'))
  (HE2:∀ W,Below w.heap.size w W→Calls Tryz.prog 47 #[Z I hi] W (fun e w'=>e= ah (aF #[aB #[O s2,O t2],Z I 0])∧Below W.heap.size W w'))
  (Vg:∀ W,Calls Tryz.prog 36 #[aB #[O s,O t],aB #[O s1,O t1]] W (fun e w'=>e= ah (aF #[Z I o1,Z I 0])∧Below W.heap.size W w'))
  (NC:∀ W,Calls Tryz.prog 36 #[aB #[O s,O t],aB #[O s2,O t2]] W (fun e w'=>e= ah (aF #[Z I o2,Z I 0])∧Below W.heap.size W w')) :
  Calls Tryz.prog 46 #[au (some ⟨b,0,none⟩),au (some ⟨q,0,none⟩)] w (fun e w'=>e= ah (aF #[aC true,Z I 0])∧Below w.heap.size w w'):=by
 have d1:decide (0≤o1)=true:=decide_eq_true ho1;have d2:decide (o2≤0)=true:=decide_eq_true ho2;have K1:=zh H7;have K2:=zh HE2;have K3:=zh Vg;have K4:=zh NC;have X:=zh h;have Y:=zh hq;clear H7 HE2 Vg NC h hq ho1 ho2;go_enter Tryz.func46,Tryz.ntmps46
 have cX:=X.out.cell;have lX:=X.out.lt;go_wp2_with fail
 clear cX lX;refine (K1.out _ (Below.refl _ _)).mono ?_;rintro e w1 ⟨rfl,hb1⟩;have hx:=(X.out.later hb1).alloc (.cells #[O s1,O t1] 38);have cX:=hx.cell;have lX:=hx.lt;go_wp2_with fail
 clear cX lX hx;obtain ⟨w2,EW,hz,A1⟩:=Nf w1 #[O s1,O t1] 38;rw [EW];obtain ⟨q1,eq1⟩:∃ y,w1.heap.size=y:=⟨_,rfl⟩;rw [eq1] at A1 ⊢;have HB:=zh (Bt hb1 hz);clear EW eq1 hz hb1;refine (K2.out _ HB.out).mono ?_;rintro e w3 ⟨rfl,hb3⟩;replace HB:=zh (Bt HB.out hb3);replace A1:=zh (A1.out.later hb3);have hy:=(Y.out.later HB.out).alloc (.cells #[O s2,O t2] 38);have cY:=hy.cell;have lY:=hy.lt;have ha:=A1.out.alloc (.cells #[O s2,O t2] 38);have cA:=ha.cell;have lA:=ha.lt;go_wp2_with fail
 clear cY lY hy ha cA lA;obtain ⟨w4,EW,hz,A2⟩:=Nf w3 #[O s2,O t2] 38;rw [EW];obtain ⟨q2,eq2⟩:∃ y,w3.heap.size=y:=⟨_,rfl⟩;rw [eq2] at A2 ⊢;replace HB:=zh (Bt HB.out hz);clear EW eq2 hz hb3;refine (K3.out _).mono ?_;rintro e w5 ⟨rfl,hb5⟩;replace HB:=zh (Bt HB.out hb5);replace A2:=zh (A2.out.later hb5);have hy:=Y.out.later HB.out;have cY:=hy.cell;have lY:=hy.lt;have cA:=A2.out.cell;have lA:=A2.out.lt;go_wp2_with fail
 clear cY lY hy cA lA;refine (K4.out _).mono ?_;rintro e w6 ⟨rfl,hb6⟩;go_wp2_with fail
 go_ret2
 exact ⟨rfl,Bt HB.out hb6⟩
theorem Yc (lo hi o1 o2:Int) (s t s1 t1 s2 t2:ByteArray) (w:World) (hv:jy lo hi=true) (ho1:0≤o1) (ho2:o2≤0)
  (H7:∀ W,Below w.heap.size w W→Calls Tryz.prog 47 #[Z I lo] W (fun e w'=>e= ah (aF #[aB #[O s1,O t1],Z I 0])∧Below W.heap.size W w'))
  (HE2:∀ W,Below w.heap.size w W→Calls Tryz.prog 47 #[Z I hi] W (fun e w'=>e= ah (aF #[aB #[O s2,O t2],Z I 0])∧Below W.heap.size W w'))
  (Vg:∀ W,Calls Tryz.prog 36 #[aB #[O s,O t],aB #[O s1,O t1]] W (fun e w'=>e= ah (aF #[Z I o1,Z I 0])∧Below W.heap.size W w'))
  (NC:∀ W,Calls Tryz.prog 36 #[aB #[O s,O t],aB #[O s2,O t2]] W (fun e w'=>e= ah (aF #[Z I o2,Z I 0])∧Below W.heap.size W w')) :
  Calls Tryz.prog 18 #[aB #[Z I lo,Z I hi],aB #[O s,O t]] w (fun e w'=>e= ah (aF #[aC true,Z I 0])∧Below w.heap.size w w'):=by
 have H:Hid (∀ W b c q,Below w.heap.size w W→aA W b #[Z I lo,Z I hi] 26→aA W c #[O s,O t] 38→aA W q #[Z I lo,Z I hi] 26→Calls Tryz.prog 45 #[.func (.func 46) #[] #[au (some ⟨b,0,none⟩),au (some ⟨c,0,none⟩)],aj (some ⟨q,0,none⟩) 1 1] W (fun e w'=>e= ah (aF #[aC true,Z I 0])∧Below W.heap.size W w')):=zh fun W b c q hW h1 h2 h3 =>
  Qv 46 #[au (some ⟨b,0,none⟩),au (some ⟨c,0,none⟩)] lo hi q W hv h3 (fun W' hW'=>Uj lo hi o1 o2 s t s1 t1 s2 t2 b c W' ho1 ho2 (h1.later hW') (h2.later hW') (fun W2 h4=>H7 W2 (Bt hW (Bt hW' h4))) (fun W2 h4=>HE2 W2 (Bt hW (Bt hW' h4))) Vg NC) (fun args W=>by rfl)
 clear H7 HE2 Vg NC hv ho1 ho2;go_enter Tryz.func18,Tryz.ntmps18
 go_wp2_with fail
 obtain ⟨wx,EW,hz,X,R,dA⟩:=al3 w #[Z I lo,Z I hi] 26 #[O s,O t] 38 #[Z I lo,Z I hi] 26;rw [EW];clear EW;refine (H.out _ _ _ _ hz X.out R.out dA.out).mono ?_;rintro e w1 ⟨rfl,hb1⟩;clear H;go_wp2_with fail
 go_ret2
 exact ⟨rfl,Bt hz hb1⟩
def TI (a b:Int × Int):(Int × Int) × Int:=if b.1≤0∧0≤b.2 then ((0,0),7) else qV (fun x y up=>lJ x 1000000000000 y up) a b
def F5 (a b:Int × Int):(Int × Int) × Int:=if okB [a,b] then TI a b else ((0,0),30)
def RX (b:Int × Int) (n d:Int):(Int × Int) × Int:=if n< -1000000000000∨1000000000000<n∨d<1∨1000000000000<d then ((0,0),2) else qV (fun x y up=>lJ x y d up) b (n,n)
def Bc (b:Int × Int) (n d:Int):(Int × Int) × Int:=if okB [b] then RX b n d else ((0,0),30)
def UC (n:Int):(Int × Int) × Int:=if jy n n then ((n,n),0) else ((0,0),30)
theorem CW {lo hi:Int} (h:jy lo hi=true):lo.natAbs≤1000000000000000000∧hi.natAbs≤1000000000000000000∧lo≤hi:=by
 obtain ⟨h1,h2,h3⟩: -1000000000000000000≤lo∧lo≤hi∧hi≤1000000000000000000:=by simpa [jy] using h
 exact ⟨by omega,by omega,h2⟩
theorem J5 {a:Int × Int} (h:jy a.1 a.2=true) (k:Nat):(J6 a k).natAbs≤1000000000000000000:=by
 unfold J6;have:=CW h;split<;>omega
theorem Sc {a:Int × Int} (h:jy a.1 a.2=true) (k:Nat):(Ic a k).natAbs≤1000000000000000000:=by
 unfold Ic;have:=CW h;split<;>omega
theorem Uv (x y:Int) (up:Bool) (hx:x.natAbs≤1000000000000000000) (hy:y≠0) (hy2:y.natAbs≤1000000000000000000) (w:World) :
  Calls Tryz.prog 112 #[Z I x,Z I y,aC up] w (fun e w'=>e= ah (aF #[Z I (lJ x 1000000000000 y up).1,aC (lJ x 1000000000000 y up).2])∧Below w.heap.size w w'):=by
 have H:=zh (fun W=>zq x 1000000000000 y up hx zo hy hy2 W);generalize lJ x 1000000000000 y up=z at *;obtain ⟨z1,z2⟩:=z;simp only at *;clear hx hy hy2;go_enter Tryz.func112,Tryz.ntmps112
 go_wp2_with fail
 refine (H.out _).mono ?_;rintro e w1 ⟨rfl,hb⟩;go_wp2_with fail
 go_ret2
 exact ⟨rfl,hb⟩
theorem Uw (x y z t:Int) (h0:okB [(x,y),(z,t)]=true) (b c:Nat) (w:World) (h:aA w b #[Z I x,Z I y] 26) (k:aA w c #[Z I z,Z I t] 26) :
  Calls Tryz.prog 111 #[au (some ⟨c,0,none⟩),au (some ⟨b,0,none⟩)] w (fun e w'=>e= ah (ig (TI (x,y) (z,t)))∧Below w.heap.size w w'):=by
 have h0':jy x y=true∧jy z t=true:=by simpa [okB] using h0
 have ha:=J5 (a:=(x,y)) h0'.1;have hc:=Sc (a:=(z,t)) h0'.2;obtain ⟨z1,z2,z3⟩:=CW h0'.2
 have H:Hid (¬ (z≤0∧0≤t)→∀ W,Calls Tryz.prog 55 #[aB #[Z I x,Z I y],aB #[Z I z,Z I t],.func (.func 112) #[] #[]] W (fun e w'=>e= ah (ig (qV (fun x y up=>lJ x 1000000000000 y up) (x,y) (z,t)))∧Below W.heap.size W w')):=zh fun hn W =>
  uf (fun x y up=>lJ x 1000000000000 y up) 112 #[] x y z t W (fun k up W' _=>Uv _ _ up (ha k) (by unfold Ic;split<;>simp only<;>omega) (hc k) W') (fun args W=>by rfl)
 have e:TI (x,y) (z,t)=if z≤0∧0≤t then ((0,0),7) else qV (fun x y up=>lJ x 1000000000000 y up) (x,y) (z,t):=rfl
 rw [e];generalize qV (fun x y up=>lJ x 1000000000000 y up) (x,y) (z,t)=m at *;clear h0 h0' ha hc z1 z2 z3 e;obtain ⟨⟨m1,m2⟩,m3⟩:=m;have HX:=zh h;have HY:=zh k;clear h k
 by_cases hn:z≤0∧0≤t
 ·rw [if_pos hn];obtain ⟨g1,g2⟩:=hn;unfold ig at *;simp only at *;clear H;obtain ⟨cx,lx,fx⟩:=HY.clf;go_enter Tryz.func111,Tryz.ntmps111
  go_wp2_with fail
  have hx:=aA.new w #[Z I 0,Z I 0] 26;refine bE rfl rfl aY Tryz.underlying26 rfl zk ?_;exact ⟨rfl,aO⟩
 ·rw [if_neg hn];replace H:=zh (H.out hn);unfold ig at *;simp only at *
  have g:decide (z≤0)=false∨(decide (z≤0)=true∧decide (0≤t)=false):=by
   by_cases g1:z≤0
   ·exact .inr ⟨decide_eq_true g1,decide_eq_false (fun g2=>hn ⟨g1,g2⟩)⟩
   ·exact .inl (decide_eq_false g1)
  clear hn;obtain ⟨cx,lx,fx⟩:=HX.clf;obtain ⟨cy,ly,fy⟩:=HY.clf
  rcases g with g1|⟨g1,g2⟩
  all_goals
   simp only [decide_eq_false_iff_not,decide_eq_true_eq] at *;go_enter Tryz.func111,Tryz.ntmps111
   go_wp2_with fail
   refine (H.out _).mono ?_;rintro e w1 ⟨rfl,hb1⟩;have hx:=aA.later (aA.new w #[Z I 0,Z I 0] 26) hb1;have cr:=hx.cell;have fr:=hx.free;have lr:=hx.lt;have hw:=Bt (show Below w.heap.size w (w.alloc (.cells #[Z I 0,Z I 0] 26)) from aO) hb1;go_wp2_with fail
   refine bE rfl rfl aY Tryz.underlying26 rfl zk ?_;exact ⟨rfl,aO⟩
theorem wC (x y z t:Int) (w:World):Calls Tryz.prog 59 #[aB #[Z I x,Z I y],aB #[Z I z,Z I t]] w (fun e w'=>e= ah (ig (F5 (x,y) (z,t)))∧Below w.heap.size w w'):=by
 have H:Hid (∀ W b c d,aA W b #[Z I x,Z I y] 26→aA W c #[Z I z,Z I t] 26→aA W d #[Z I x,Z I y,Z I z,Z I t] 26→Calls Tryz.prog 53 #[.func (.func 111) #[] #[au (some ⟨c,0,none⟩),au (some ⟨b,0,none⟩)],aj (some ⟨d,0,none⟩) 2 2] W (fun e w'=>e= ah (ig (F5 (x,y) (z,t)))∧Below W.heap.size W w')):=zh fun W b c d h1 h2 h3 =>
  qA 111 #[au (some ⟨c,0,none⟩),au (some ⟨b,0,none⟩)] _ _ _ _ W (DZ.two h3) (fun h W' hW'=>Uw x y z t h b c W' (h1.later hW') (h2.later hW')) (fun args W=>by rfl)
 generalize F5 (x,y) (z,t)=m at *;obtain ⟨⟨m1,m2⟩,m3⟩:=m;unfold ig at *;simp only at *;go_enter Tryz.func59,Tryz.ntmps59
 go_wp2_with fail
 obtain ⟨wx,EW,hz,X,Y,R,dA⟩:=al4 w #[Z I x,Z I y] 26 #[Z I z,Z I t] 26 #[Z I 0,Z I 0] 26 #[Z I x,Z I y,Z I z,Z I t] 26;rw [EW];clear EW;have HB:=zh hz;clear hz;refine (H.out _ _ _ _ X.out Y.out dA.out).mono ?_;rintro e w1 ⟨rfl,hb1⟩;replace R:=R.bl hb1;replace HB:=zh (Bt HB.out hb1);clear hb1 H;have hx:=R.out;have cx:=hx.cell;have fx:=hx.free;have lx:=hx.lt;have hw:=HB.out;go_wp2_with fail
 refine bE rfl rfl aY Tryz.underlying26 rfl zk ?_;exact ⟨rfl,aO⟩
theorem Nh (x y d:Int) (up:Bool) (hx:x.natAbs≤1000000000000000000) (hy:y.natAbs≤1000000000000000000) (hd:d≠0) (hd2:d.natAbs≤1000000000000000000) (c:Nat) (w:World) (h:aA w c #[Z I d] 3) :
  Calls Tryz.prog 97 #[Z I x,Z I y,aC up,au (some ⟨c,0,none⟩)] w (fun e w'=>e= ah (aF #[Z I (lJ x y d up).1,aC (lJ x y d up).2])∧Below w.heap.size w w'):=by
 have H:=zh (fun W=>zq x y d up hx hy hd hd2 W);generalize lJ x y d up=z at *;obtain ⟨z1,z2⟩:=z;have cc:=h.cell;have lc:=h.lt;simp only at *;clear hx hy hd hd2 h;go_enter Tryz.func97,Tryz.ntmps97
 go_wp2_with fail
 refine (H.out _).mono ?_;rintro e w1 ⟨rfl,hb⟩;go_wp2_with fail
 go_ret2
 exact ⟨rfl,hb⟩
theorem Ni (x y n d:Int) (h0:okB [(x,y)]=true) (bn bd b:Nat) (w:World) (hn:aA w bn #[Z I n] 3) (hd:aA w bd #[Z I d] 3) (h:aA w b #[Z I x,Z I y] 26) :
  Calls Tryz.prog 96 #[au (some ⟨bn,0,none⟩),au (some ⟨bd,0,none⟩),au (some ⟨b,0,none⟩)] w (fun e w'=>e= ah (ig (RX (x,y) n d))∧Below w.heap.size w w'):=by
 have h0':jy x y=true:=by simpa [okB] using h0
 have ha:=J5 (a:=(x,y)) h0'
 have H:Hid (¬ (n< -1000000000000∨1000000000000<n∨d<1∨1000000000000<d)→∀ W,Below w.heap.size w W→Calls Tryz.prog 55 #[aB #[Z I x,Z I y],aB #[Z I n,Z I n],.func (.func 97) #[] #[au (some ⟨bd,0,none⟩)]] W (fun e w'=>e= ah (ig (qV (fun x y up=>lJ x y d up) (x,y) (n,n)))∧Below W.heap.size W w')):=zh fun hg W hW =>
  uf (fun x y up=>lJ x y d up) 97 #[au (some ⟨bd,0,none⟩)] x y n n W (fun k up W' hW'=>Nh _ _ d up (ha k) (by unfold Ic;split<;>simp only<;>omega) zo zo bd W' ((hd.later hW).later hW')) (fun args W=>by rfl)
 have e:RX (x,y) n d=if n< -1000000000000∨1000000000000<n∨d<1∨1000000000000<d then ((0,0),2) else qV (fun x y up=>lJ x y d up) (x,y) (n,n):=rfl
 rw [e];generalize qV (fun x y up=>lJ x y d up) (x,y) (n,n)=m at *;obtain ⟨⟨m1,m2⟩,m3⟩:=m;have HX:=zh h;have HN:=zh hn;have HD:=zh hd;clear h0 h0' ha e h hn hd;obtain ⟨cn,ln,fn⟩:=HN.clf;obtain ⟨cd,ld,fd⟩:=HD.clf
 by_cases hg:n< -1000000000000∨1000000000000<n∨d<1∨1000000000000<d
 ·rw [if_pos hg];clear H;have g:n< -1000000000000∨(¬ n< -1000000000000∧1000000000000<n)∨(¬ n< -1000000000000∧¬ 1000000000000<n∧d<1)∨(¬ n< -1000000000000∧¬ 1000000000000<n∧¬ d<1∧1000000000000<d):=by omega
  clear hg;unfold ig;simp only
  rcases g with g1|⟨g1,g2⟩|⟨g1,g2,g3⟩|⟨g1,g2,g3,g4⟩
  all_goals
   go_enter Tryz.func96,Tryz.ntmps96
   go_wp2_with fail
   have hx:=aA.new w #[Z I 0,Z I 0] 26;refine bE rfl rfl aY Tryz.underlying26 rfl zk ?_;exact ⟨rfl,aO⟩
 ·rw [if_neg hg];replace H:=zh (H.out hg);have g1:¬ n< -1000000000000:=by omega
  have g2:¬ 1000000000000<n:=by omega
  have g3:¬ d<1:=by omega
  have g4:¬ 1000000000000<d:=by omega
  clear hg;unfold ig at *;simp only at *;obtain ⟨cx,lx,fx⟩:=HX.clf;go_enter Tryz.func96,Tryz.ntmps96
  go_wp2_with fail
  refine (H.out _ aO).mono ?_;rintro e w1 ⟨rfl,hb1⟩;have hx:=aA.later (aA.new w #[Z I 0,Z I 0] 26) hb1;have cr:=hx.cell;have fr:=hx.free;have lr:=hx.lt;have hw:=Bt (show Below w.heap.size w (w.alloc (.cells #[Z I 0,Z I 0] 26)) from aO) hb1;go_wp2_with fail
  refine bE rfl rfl aY Tryz.underlying26 rfl zk ?_;exact ⟨rfl,aO⟩
theorem QJ (x y n d:Int) (w:World):Calls Tryz.prog 43 #[aB #[Z I x,Z I y],Z I n,Z I d] w (fun e w'=>e= ah (ig (Bc (x,y) n d))∧Below w.heap.size w w'):=by
 have H:Hid (∀ W bn bd b c,aA W bn #[Z I n] 3→aA W bd #[Z I d] 3→aA W b #[Z I x,Z I y] 26→aA W c #[Z I x,Z I y] 26→Calls Tryz.prog 53 #[.func (.func 96) #[] #[au (some ⟨bn,0,none⟩),au (some ⟨bd,0,none⟩),au (some ⟨b,0,none⟩)],aj (some ⟨c,0,none⟩) 1 1] W (fun e w'=>e= ah (ig (Bc (x,y) n d))∧Below W.heap.size W w')):=zh fun W bn bd b c h1 h2 h3 h4 =>
  qA 96 #[au (some ⟨bn,0,none⟩),au (some ⟨bd,0,none⟩),au (some ⟨b,0,none⟩)] _ _ _ _ W (DZ.one h4) (fun h W' hW'=>Ni x y n d h bn bd b W' (h1.later hW') (h2.later hW') (h3.later hW')) (fun args W=>by rfl)
 generalize Bc (x,y) n d=z at *;obtain ⟨⟨z1,z2⟩,z3⟩:=z;unfold ig at *;simp only at *;go_enter Tryz.func43,Tryz.ntmps43
 go_wp2_with fail
 obtain ⟨wx,EW,hz,X,N,D,R,dA⟩:=af8 w #[Z I x,Z I y] 26 #[Z I n] 3 #[Z I d] 3 #[Z I 0,Z I 0] 26 #[Z I x,Z I y] 26;rw [EW];clear EW;have HB:=zh hz;clear hz;refine (H.out _ _ _ _ _ N.out D.out X.out dA.out).mono ?_;rintro e w1 ⟨rfl,hb1⟩;replace R:=R.bl hb1;replace HB:=zh (Bt HB.out hb1);clear hb1 H;have hx:=R.out;have cx:=hx.cell;have fx:=hx.free;have lx:=hx.lt;have hw:=HB.out;go_wp2_with fail
 refine bE rfl rfl aY Tryz.underlying26 rfl zk ?_;exact ⟨rfl,aO⟩
theorem QL (n:Int) (w:World):Calls Tryz.prog 58 #[Z I n] w (fun e w'=>e= ah (ig (UC n))∧Below w.heap.size w w'):=by
 have H:Hid (∀ W,Calls Tryz.prog 26 #[Z I n,Z I n] W (fun e w'=>e= ah (ig (UC n))∧Below W.heap.size W w')):=zh fun W=>by
  have h:=vD n n W;unfold UC ig
  revert h
  cases jy n n<;>exact fun h=>h
 generalize UC n=z at *;obtain ⟨⟨z1,z2⟩,z3⟩:=z;unfold ig at *;simp only at *;go_enter Tryz.func58,Tryz.ntmps58
 go_wp2_with fail
 obtain ⟨wx,EW,hz,R⟩:=Nf w #[Z I 0,Z I 0] 26;rw [EW];clear EW;have HB:=zh hz;clear hz;refine (H.out _).mono ?_;rintro e w1 ⟨rfl,hb1⟩;replace R:=R.bl hb1;replace HB:=zh (Bt HB.out hb1);clear hb1 H;have hx:=R.out;have cx:=hx.cell;have fx:=hx.free;have lx:=hx.lt;have hw:=HB.out;go_wp2_with fail
 refine bE rfl rfl aY Tryz.underlying26 rfl zk ?_;exact ⟨rfl,aO⟩
end Go.Proofs.dR
