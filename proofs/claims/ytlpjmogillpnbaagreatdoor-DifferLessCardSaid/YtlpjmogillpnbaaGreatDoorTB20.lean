/- Lemmas for the proof. No condition. -/
import Derived.Test.YtlpjmogillpnbaaGreatDoorTB19
set_option linter.unusedVariables false
set_option linter.unusedSimpArgs false
set_option maxRecDepth 100000
set_option maxHeartbeats 16000000
open Go.Ending renaming returned → ah
open Go.IntKind renaming i64 → I
open Go.Value renaming agg → au, bool → ay, int → Z, slice → aj, string → O, tuple → aD
open List renaming set_cons_succ → aH, set_cons_zero → aG
open Nat renaming le_trans → aB
namespace Go.Proofs.dD
open Go Go.RowKit Go.SW Go.Num Go.Mem Go.Proofs Go.Dec Go.gW
theorem fI {s t:ByteArray} {q:Rat} (h:rd ⟨s,t⟩=some q) (w:World):Calls Tryz.prog 47 #[au #[O s,O t]] w (EY w q):=by
 obtain ⟨e,hq⟩:=nI h;have:=JC q hq w;rw [← e] at this;exact this
theorem fT {s t:ByteArray} (h:rd ⟨s,t⟩=none) (w:World):Calls Tryz.prog 47 #[au #[O s,O t]] w (oK w):=JD ⟨s,t⟩ h w
theorem gI (a:Fr) (w:World) :
  Calls Tryz.prog 38 #[a.v] w (fun e w'=>e= ah (Z I (q9 a))∧Below w.heap.size w w'):=by
 obtain ⟨s,t⟩:=a
 show Calls _ _ #[au #[O s,O t]] _ _
 unfold q9;cases h:rd ⟨s,t⟩ with
 | none =>
  have HR:=zh (fT h);clear h;go_enter Tryz.func38,Tryz.ntmps38
  go_wp2_with fail
  refine (HR.out _).mono ?_;rintro e v1 ⟨rfl,hc1⟩;go_wp2_with fail
  go_ret
  exact ⟨rfl,aN⟩
 | some q =>
  have HR:=zh (fI h);clear h;go_enter Tryz.func38,Tryz.ntmps38
  go_wp2_with fail
  refine (HR.out _).mono ?_;rintro e v1 ⟨v,rfl,hc1,hv⟩;obtain ⟨qZ,Fe,ru,sW,IK,uw,rfl,Hq,mI⟩:=hv;replace Hq:=zh Hq;replace mI:=zh mI;go_wp2_with fail
  go_ret
  exact ⟨rfl,aN⟩
def pair (x:Int × Int):Value:=aD #[Z I x.1,Z I x.2]
theorem BM (a:Fr) (w:World) :
  Calls Tryz.prog 18 #[a.v] w (fun e w'=>e= ah (pair (rT a))∧Below w.heap.size w w'):=by
 obtain ⟨s,t⟩:=a
 show Calls _ _ #[au #[O s,O t]] _ _
 unfold rT;cases h:rd ⟨s,t⟩ with
 | none =>
  have HR:=zh (fT h);clear h;go_enter Tryz.func18,Tryz.ntmps18
  go_wp2_with fail
  refine (HR.out _).mono ?_;rintro e v1 ⟨rfl,hc1⟩;go_wp2_with fail
  go_ret2
  exact ⟨rfl,aN⟩
 | some q =>
  have HR:=zh (fI h);have e:=JA q;simp only;rw [← e];clear h e;go_enter Tryz.func18,Tryz.ntmps18
  go_wp2_with fail
  refine (HR.out _).mono ?_;rintro e v1 ⟨v,rfl,hc1,hv⟩;obtain ⟨qZ,Fe,ru,sW,IK,uw,rfl,Hq,mI⟩:=hv;replace Hq:=zh Hq;replace mI:=zh mI;go_wp2_with fail
  refine (sN _ q.num _ (dN.dW aR)).mono ?_;rintro e v2 ⟨rfl,hc2⟩;go_wp2_with fail
  go_ret2
  exact ⟨rfl,aN⟩
theorem EN (s t s' t':ByteArray) (w:World) :
  Calls Tryz.prog 86 #[au #[O s,O t],au #[O s',O t'],.func (.func 87) #[] #[]] w (fun e w'=>e= ah (pair (wh ⟨s,t⟩ ⟨s',t'⟩))∧Below w.heap.size w w'):=by
 unfold wh;cases h:rd ⟨s,t⟩ with
 | none =>
  have HR:=zh (fT h);cases k:rd ⟨s',t'⟩ with
  | none =>
   have HS:=zh (fT k);clear h k;go_enter Tryz.func86,Tryz.ntmps86
   go_wp2_with fail
   refine (HR.out _).mono ?_;rintro e v1 ⟨rfl,hc1⟩;have B1:=aC.later (aC.nS _ _ _ _) hc1;have cB1:=B1.cell;have qP:=B1.free;have lB1:=B1.lt;go_wp2_with fail
   refine (HS.out _).mono ?_;rintro e v2 ⟨rfl,hc2⟩;go_wp2_with fail
   go_ret2
   exact ⟨rfl,aN⟩
  | some q =>
   have HS:=zh (fI k);clear h k;go_enter Tryz.func86,Tryz.ntmps86
   go_wp2_with fail
   refine (HR.out _).mono ?_;rintro e v1 ⟨rfl,hc1⟩;have B1:=aC.later (aC.nS _ _ _ _) hc1;have cB1:=B1.cell;have qP:=B1.free;have lB1:=B1.lt;go_wp2_with fail
   refine (HS.out _).mono ?_;rintro e v2 ⟨v,rfl,hc2,hv⟩;obtain ⟨qZ,Fe,ru,sW,IK,uw,rfl,Hq,mI⟩:=hv;replace Hq:=zh Hq;replace mI:=zh mI;go_wp2_with fail
   go_ret2
   exact ⟨rfl,aN⟩
 | some p =>
  have HR:=zh (fI h);cases k:rd ⟨s',t'⟩ with
  | none =>
   have HS:=zh (fT k);clear h k;go_enter Tryz.func86,Tryz.ntmps86
   go_wp2_with fail
   refine (HR.out _).mono ?_;rintro e v1 ⟨v,rfl,hc1,hv⟩;obtain ⟨FW,TK,Gw,JI,VW,Ke,rfl,Hp,rE⟩:=hv;replace Hp:=zh Hp;replace rE:=zh rE;have B1:=aC.later (aC.nS _ _ _ _) hc1;have cB1:=B1.cell;have qP:=B1.free;have lB1:=B1.lt;go_wp2_with fail
   refine (HS.out _).mono ?_;rintro e v2 ⟨rfl,hc2⟩;go_wp2_with fail
   go_ret2
   exact ⟨rfl,aN⟩
  | some q =>
   have HS:=zh (fI k);have KP:=zh ((kG (nI h).2).mono (show 67≤1000000 by omega));have KQ:=zh ((kG (nI k).2).mono (show 67≤1000000 by omega));clear h k;go_enter Tryz.func86,Tryz.ntmps86
   go_wp2_with fail
   refine (HR.out _).mono ?_;rintro e v1 ⟨v,rfl,hc1,hv⟩;obtain ⟨FW,TK,Gw,JI,VW,Ke,rfl,Hp,rE⟩:=hv;replace Hp:=zh Hp;replace rE:=zh rE;have B1:=aC.later (aC.nS _ _ _ _) hc1;have cB1:=B1.cell;have qP:=B1.free;have lB1:=B1.lt;go_wp2_with fail
   refine (HS.out _).mono ?_;rintro e v2 ⟨v,rfl,hc2,hv⟩;obtain ⟨qZ,Fe,ru,sW,IK,uw,rfl,Hq,mI⟩:=hv;replace Hq:=zh Hq;replace mI:=zh mI;replace X1:aC _ (v1.heap.size) _ _:=aC.later bf hc2;(try simp only [List.setIfInBounds_toArray,aG,aH] at X1);replace zq:=X1.cell;replace Fg:=X1.free;replace zm:=X1.lt;go_wp2_with fail
   refine (xS _ _ p q _ (eG.of aR aR) (eG.of aR aR) KP.out KQ.out).mono ?_;rintro e v3 ⟨rfl,hc3⟩;go_wp2_with fail
   go_ret2
   exact ⟨rfl,aN⟩
theorem O1 (a b:Fr) (w:World) :
  Calls Tryz.prog 40 #[a.v,b.v] w (fun e w'=>e= ah (pair (wh a b))∧Below w.heap.size w w'):=by
 obtain ⟨s,t⟩:=a;obtain ⟨s',t'⟩:=b
 show Calls _ _ #[au #[O s,O t],au #[O s',O t']] _ _
 have H:=zh (EN s t s' t');unfold pair at *;generalize wh ⟨s,t⟩ ⟨s',t'⟩=c at *;obtain ⟨x,y⟩:=c;go_enter Tryz.func40,Tryz.ntmps40
 go_wp2_with fail
 refine (H.out _).mono ?_;rintro e v1 ⟨rfl,hc1⟩;go_wp2_with fail
 go_ret2
 exact ⟨rfl,aN⟩
theorem Rn (n d:Int) (hl1:(Lib.decDigits n.natAbs).length≤600) (hl2:(Lib.decDigits d.natAbs).length≤600) (w:World) (ht:gJ.Pow w) :
  Calls Tryz.prog 61 #[O ⟨(Lib.itoa n).toArray⟩,O ⟨(Lib.itoa d).toArray⟩] w (fun e w'=>e= ah (Fr.res (tH n d))∧Below w.heap.size w w'):=by
 have HC:=zh (jM (s:=⟨(Lib.itoa n).toArray⟩) (eF hl1));have HD:=zh (jM (s:=⟨(Lib.itoa d).toArray⟩) (eF hl2));have SF:=zh hl1;have HL2:=zh hl2;have S1:=jB (dZ.2 hl1);have S2:=jB (dZ.2 hl2);have HT:=zh ht;clear ht hl1 hl2
 by_cases h0:d=0
 ·have e:Fr.res (tH n d)= aD #[au #[O ⟨#[]⟩,O ⟨#[]⟩],Z I 7]:=by unfold tH;rw [if_pos h0];rfl
  rw [e];have hz:decide (d.natAbs=0)=true:=by simp;omega
  have HZ:=zh hz;clear e h0 hz S1 S2;go_enter Tryz.func61,Tryz.ntmps61
  go_wp2_with fail
  refine (HC.out _).mono ?_;rintro e v1 ⟨rfl,hc1⟩;have BR:=aC.later (aC.new _ _ _) hc1;have bT:=BR.cell;have bS:=BR.free;have jd:=BR.lt;go_wp2_with fail
  refine (HD.out _).mono ?_;rintro e v2 ⟨rfl,hc2⟩;replace BR:=aC.later (BR) hc2;replace bT:=BR.cell;replace bS:=BR.free;replace jd:=BR.lt;go_wp2_with fail
  refine (jw n SF.out _).mono ?_;rintro e v3 ⟨v,rfl,hc3,hv⟩;obtain ⟨P9,Zy,QU,rfl,HN⟩:=hv;replace HN:=zh HN;replace BR:=aC.later (BR) hc3;replace bT:=BR.cell;replace bS:=BR.free;replace jd:=BR.lt;go_wp2_with fail
  refine (jw d HL2.out _).mono ?_;rintro e v4 ⟨v,rfl,hc4,hv⟩;obtain ⟨Qa,Zz,QV,rfl,HM⟩:=hv;replace HM:=zh HM;replace BR:=aC.later (BR) hc4;replace bT:=BR.cell;replace bS:=BR.free;replace jd:=BR.lt;go_wp2_with fail
  refine (gL _ d.natAbs _ aR).mono ?_;rintro e v5 ⟨rfl,rfl⟩;rw [HZ.out];go_wp2_with fail
  refine aY rfl rfl bf Tryz.underlying29 rfl zk ?_;exact ⟨rfl,aN⟩
 ·have e:tH n d=wr (mkRat (iM n.natAbs (!(decide (n<0) == decide (d<0)))) d.natAbs):=by unfold tH;rw [if_neg h0,Qq n d h0]
  rw [e];have hz:decide (d.natAbs=0)=false:=by simp;omega
  have HZ:=zh hz;have hdp:0<d.natAbs:=by omega
  have Ws:=zh hdp;obtain ⟨f,Ef⟩:∃ y:Bool,Hid (Bool.not (decide (n<0) == decide (d<0))=y):=⟨_,zh rfl⟩;obtain ⟨s,Es⟩:∃ y:Int,Hid (iM n.natAbs f=y):=⟨_,zh rfl⟩;rw [Ef.out,Es.out];have hs:sz 1000000000 s.natAbs≤67:=by rw [← Es.out,iJ];exact S1
  have KS:=zh (aB hs (show 67≤549755813888 by omega));have KD:=zh (aB S2 (show 67≤549755813888 by omega))
  have KQ:Hid (qc 1000000 (mkRat s d.natAbs)):=by
   have hp:=qo s hdp;refine zh ⟨?_,?_⟩
   ·rw [hp.1,iJ];exact aB jf zo
   ·rw [hp.2];exact aB jf zo
  obtain ⟨q,Eq⟩:∃ y:Rat,Hid (mkRat s d.natAbs=y):=⟨_,zh rfl⟩;rw [Eq.out] at KQ ⊢;obtain ⟨x,Ex⟩:∃ y:Wx,Hid (wr q=y):=⟨_,zh rfl⟩;rw [Ex.out];clear e;obtain ⟨⟨s1,t1⟩,e⟩:=x;rw [jV];clear h0 hz hdp hs S1 S2;go_enter Tryz.func61,Tryz.ntmps61
  go_wp2_with fail
  refine (HC.out _).mono ?_;rintro e v1 ⟨rfl,hc1⟩;have BR:=aC.later (aC.new _ _ _) hc1;have bT:=BR.cell;have bS:=BR.free;have jd:=BR.lt;go_wp2_with fail
  refine (HD.out _).mono ?_;rintro e v2 ⟨rfl,hc2⟩;replace BR:=aC.later (BR) hc2;replace bT:=BR.cell;replace bS:=BR.free;replace jd:=BR.lt;go_wp2_with fail
  refine (jw n SF.out _).mono ?_;rintro e v3 ⟨v,rfl,hc3,hv⟩;obtain ⟨P9,Zy,QU,rfl,HN⟩:=hv;replace HN:=zh HN;replace BR:=aC.later (BR) hc3;replace bT:=BR.cell;replace bS:=BR.free;replace jd:=BR.lt;go_wp2_with fail
  refine (jw d HL2.out _).mono ?_;rintro e v4 ⟨v,rfl,hc4,hv⟩;obtain ⟨Qa,Zz,QV,rfl,HM⟩:=hv;replace HM:=zh HM;replace HN:=zh (bC.later HN.out hc4);replace BR:=aC.later (BR) hc4;replace bT:=BR.cell;replace bS:=BR.free;replace jd:=BR.lt;go_wp2_with fail
  refine (gL _ d.natAbs _ aR).mono ?_;rintro e v5 ⟨rfl,rfl⟩;rw [HZ.out];go_wp2_with fail
  refine aT [(.pure,0),(.read,1),(.pure,2),(.read,3),(.pure,4),(.read,5),(.pure,6),(.pure,8),(.read,9),(.ext,7),(.ext,10),(.ext,11),(.pure,12),(.pure,13),(.fin,14),(.fin,15)] zk zk zR zP ?_;refine zV ?_;refine aW rfl rfl (fun w6 hb6 J hJ=>?_);go_simp;replace HM:=zh (bC.carry HM.out aR hb6);replace BR:aC _ (w.heap.size) _ _:=aC.later bf hb6;(try simp only [List.setIfInBounds_toArray,aG,aH] at BR);replace bT:=BR.cell;replace bS:=BR.free;replace jd:=BR.lt;refine ((dU _ n.natAbs _ _ aR).mono (by rw [show (Bool.not (decide (n<0) == decide (d<0)))=f from Ef.out,Es.out];exact fun _ _ h=>h)).mono ?_;rintro e v6 ⟨v,rfl,hc6,hv⟩;obtain ⟨tC,IL,uz,rfl,Hs⟩:=hv;replace Hs:=zh Hs;replace HM:=zh (bC.later HM.out hc6);replace BR:=aC.later (BR) hc6;replace bT:=BR.cell;replace bS:=BR.free;replace jd:=BR.lt;refine hJ _ _ hc6 ?_
  clear hJ J;refine aW rfl rfl (fun w7 og J hJ=>?_);go_simp;replace HM:=zh (bC.later HM.out og);replace Hs:=zh (bC.later Hs.out og);replace BR:=aC.later (BR) og;replace bT:=BR.cell;replace bS:=BR.free;replace jd:=BR.lt;refine ((mU _ _ s d.natAbs _ (dN.dW aR) aR Ws.out KS.out KD.out).mono (by rw [Eq.out];exact fun _ _ h=>h)).mono ?_;rintro e v7 ⟨v,rfl,sG,hv⟩;obtain ⟨qZ,Fe,ru,sW,IK,uw,rfl,Hq,mI⟩:=hv;replace Hq:=zh Hq;replace mI:=zh mI;replace HM:=zh (bC.later HM.out sG);replace Hs:=zh (bC.later Hs.out sG);replace BR:=aC.later (BR) sG;replace bT:=BR.cell;replace bS:=BR.free;replace jd:=BR.lt;refine hJ _ _ sG ?_;clear hJ J;refine aW rfl rfl (fun w8 BZ J hJ=>?_);go_simp;replace BR:=aC.later (BR) BZ;replace bT:=BR.cell;replace bS:=BR.free;replace jd:=BR.lt
  refine ((iG _ q _ (eG.of aR aR) KQ.out (HT.out.later aN)).mono (by rw [Ex.out,jV];exact fun _ _ h=>h)).mono ?_;rintro e v8 ⟨rfl,hc8⟩;replace BR:=aC.later (BR) hc8;replace bT:=BR.cell;replace bS:=BR.free;replace jd:=BR.lt;refine hJ _ _ hc8 ?_;clear hJ J;refine zV ?_;refine dG [_,_] rfl (fun w9 zn=>?_);replace BR:=aC.later (BR) zn;replace bT:=BR.cell;replace bS:=BR.free;replace jd:=BR.lt;go_wp2_with fail
  refine aY rfl rfl bf Tryz.underlying29 rfl zk ?_;exact ⟨rfl,aN⟩
theorem I4 (z:Int) (h0: -9223372036854775808≤z) (h1:z≤9223372036854775807):(Lib.decDigits z.natAbs).length≤600 :=
 aB (jh 19 z.natAbs zo zo) zo
theorem qI (n d:Int) (n0: -9223372036854775808≤n) (n1:n≤9223372036854775807) (d0: -9223372036854775808≤d) (d1:d≤9223372036854775807) (w:World) (ht:gJ.Pow w) :
  Calls Tryz.prog 26 #[Z I n,Z I d] w (fun e w'=>e= ah (Fr.res (tH n d))∧Below w.heap.size w w'):=by
 have H1:=zh (fun w ht=>whole.IC n n0 n1 w ht);have H2:=zh (fun w ht=>whole.IC d d0 d1 w ht);have H3:=zh (fun w ht=>Rn n d (I4 n n0 n1) (I4 d d0 d1) w ht);have HT:=zh ht;clear ht n0 n1 d0 d1;obtain ⟨x,Ex⟩:∃ y:Wx,Hid (tH n d=y):=⟨_,zh rfl⟩;rw [Ex.out];obtain ⟨⟨s1,t1⟩,e⟩:=x;rw [jV];go_enter Tryz.func26,Tryz.ntmps26
 go_wp2_with fail
 refine ((H1.out _ (HT.out.later aN)).mono (fun _ _ h=>by unfold dA at h;exact h)).mono ?_;rintro e v1 ⟨rfl,hc1⟩;have BR:=aC.later (aC.new _ _ _) hc1;have bT:=BR.cell;have bS:=BR.free;have jd:=BR.lt;go_wp2_with fail
 refine ((H2.out _ (HT.out.later aN)).mono (fun _ _ h=>by unfold dA at h;exact h)).mono ?_;rintro e v2 ⟨rfl,hc2⟩;replace BR:=aC.later (BR) hc2;replace bT:=BR.cell;replace bS:=BR.free;replace jd:=BR.lt;go_wp2_with fail
 refine ((H3.out _ (HT.out.later aN)).mono (by rw [Ex.out,jV];exact fun _ _ h=>h)).mono ?_;rintro e v3 ⟨rfl,hc3⟩;replace BR:=aC.later (BR) hc3;replace bT:=BR.cell;replace bS:=BR.free;replace jd:=BR.lt;go_wp2_with fail
 refine aY rfl rfl bf Tryz.underlying29 rfl zk ?_;exact ⟨rfl,aN⟩
theorem MQ (x y:Value) (p q:Rat) (w:World) (hx:eG w x p) (hy:eG w y q) (kp:qc 1000000 p) (kq:qc 1000000 q) :
  Calls Tryz.prog 53 #[x,y] w (fun e w'=>∃ v,e= ah v∧Below w.heap.size w w'∧eG w' v (p*q)):=by
 obtain ⟨CZ,lH,Ep,O6,mH,O9,rfl,H,Hd⟩:=hx;replace H:=zh H;replace Hd:=zh Hd;obtain ⟨VU,lG,Wi,pbG,mG,cbG,rfl,G,Gd⟩:=hy;replace G:=zh G;replace Gd:=zh Gd;have HP:=zh (F9 p q);have hp:=p.den_pos;have hq:=q.den_pos;have hg:0<p.num.natAbs.gcd q.den:=Nat.gcd_pos_of_pos_right _ hq;have hh:0<q.num.natAbs.gcd p.den:=Nat.gcd_pos_of_pos_right _ hp;obtain ⟨V4,V3⟩:=kp;obtain ⟨VZ,VY⟩:=kq;obtain ⟨g,Eg⟩:∃ y:Nat,Hid (p.num.natAbs.gcd q.den=y):=⟨_,zh rfl⟩;rw [Eg.out] at hg HP;obtain ⟨h,Eh⟩:∃ y:Nat,Hid (q.num.natAbs.gcd p.den=y):=⟨_,zh rfl⟩;rw [Eh.out] at hh HP;have k1:= @jf p.num.natAbs g;have k2:= @jf p.den h;have k3:= @jf q.num.natAbs h;have k4:= @jf q.den g;obtain ⟨a,Ea⟩:∃ y:Nat,Hid (p.num.natAbs / g=y):=⟨_,zh rfl⟩;rw [Ea.out] at HP k1;obtain ⟨b,Eb⟩:∃ y:Nat,Hid (p.den / h=y):=⟨_,zh rfl⟩;rw [Eb.out] at HP k2;obtain ⟨c,Ec⟩:∃ y:Nat,Hid (q.num.natAbs / h=y):=⟨_,zh rfl⟩
 rw [Ec.out] at HP k3;obtain ⟨d,Ed⟩:∃ y:Nat,Hid (q.den / g=y):=⟨_,zh rfl⟩;rw [Ed.out] at HP k4;obtain ⟨s,Es⟩:∃ y:Nat,Hid (a*c=y):=⟨_,zh rfl⟩;rw [Es.out] at HP;obtain ⟨t,Et⟩:∃ y:Nat,Hid (b*d=y):=⟨_,zh rfl⟩;rw [Et.out] at HP;have HGp:=zh hg;have HHp:=zh hh;have ZR:Hid (sz 1000000000 p.num.natAbs≤549755813888):=by unfold Hid;omega
 have ZQ:Hid (sz 1000000000 q.num.natAbs≤549755813888):=by unfold Hid;omega
 have YU:Hid (sz 1000000000 p.den≤549755813888):=by unfold Hid;omega
 have Wm:Hid (sz 1000000000 q.den≤549755813888):=by unfold Hid;omega
 have Ka:Hid (sz 1000000000 a≤1099511627776):=by unfold Hid;omega
 have Kb:Hid (sz 1000000000 b≤1099511627776):=by unfold Hid;omega
 have Kc:Hid (sz 1000000000 c≤1099511627776):=by unfold Hid;omega
 have Kd:Hid (sz 1000000000 d≤1099511627776):=by unfold Hid;omega
 clear k1 k2 k3 k4 V4 V3 VZ VY hg hh hp hq;go_enter Tryz.func53,Tryz.ntmps53
 go_wp2_with fail
 refine ((rZ _ _ p.num.natAbs q.den _ aR aR ZR.out Wm.out).mono (by rw [Eg.out];exact fun _ _ h=>h)).mono ?_;rintro e v1 ⟨v,rfl,hc1,hv⟩;obtain ⟨an8,lMg,as1,rfl⟩:=hv.slice;have Mg:=zh hv;clear hv;replace H:=zh (bC.carry H.out aR hc1);replace Hd:=zh (bC.carry Hd.out aR hc1);replace G:=zh (bC.carry G.out aR hc1);replace Gd:=zh (bC.carry Gd.out aR hc1);have BR:=aC.later (aC.at2 _ _ _ _ _) hc1;have bT:=BR.cell;have bS:=BR.free;have B1:=aC.later (aC.alloc (aC.nS _ _ _ _) _) hc1;have cB1:=B1.cell;have qP:=B1.free;have B0:=aC.later (aC.alloc (aC.alloc (aC.new _ _ _) _) _) hc1;have cB0:=B0.cell;have jI:=B0.free;go_wp2_with fail
 refine ((rZ _ _ q.num.natAbs p.den _ aR aR ZQ.out YU.out).mono (by rw [Eh.out];exact fun _ _ h=>h)).mono ?_;rintro e v2 ⟨v,rfl,hc2,hv⟩;obtain ⟨an7,lMh,as0,rfl⟩:=hv.slice;have Mh:=zh hv;clear hv;replace H:=zh (bC.later H.out hc2);replace Hd:=zh (bC.later Hd.out hc2);replace G:=zh (bC.later G.out hc2);replace Gd:=zh (bC.later Gd.out hc2);replace Mg:=zh (bC.later Mg.out hc2);replace BR:=aC.later (BR) hc2;replace bT:=BR.cell;replace bS:=BR.free;replace B1:=aC.later (B1) hc2;replace cB1:=B1.cell;replace qP:=B1.free;replace B0:=aC.later (B0) hc2;replace cB0:=B0.cell;replace jI:=B0.free;go_wp2_with fail
 refine ((fO _ _ p.num.natAbs g _ aR aR HGp.out ZR.out).mono (by rw [Ea.out];exact fun _ _ h=>h)).mono ?_;rintro e v3 ⟨v,vr,rfl,hc3,hv,mY⟩;obtain ⟨ao2,lMa,as5,rfl⟩:=hv.slice;have Ma:=zh hv;clear hv;obtain ⟨ai5,ap9,aj7,rfl⟩:=mY.slice;have Mar:=zh mY;clear mY;replace Hd:=zh (bC.later Hd.out hc3);replace G:=zh (bC.later G.out hc3);replace Gd:=zh (bC.later Gd.out hc3);replace Mg:=zh (bC.later Mg.out hc3);replace Mh:=zh (bC.later Mh.out hc3);replace BR:=aC.later (BR) hc3;replace bT:=BR.cell;replace bS:=BR.free;replace B1:=aC.later (B1) hc3;replace cB1:=B1.cell;replace qP:=B1.free;replace B0:=aC.later (B0) hc3;replace cB0:=B0.cell;replace jI:=B0.free;go_wp2_with fail
 clear Mar H;refine ((fO _ _ p.den h _ aR aR HHp.out YU.out).mono (by rw [Eb.out];exact fun _ _ h=>h)).mono ?_;rintro e v4 ⟨v,vr,rfl,hc4,hv,mY⟩;obtain ⟨ao1,lMb,as4,rfl⟩:=hv.slice;have Mb:=zh hv;clear hv;obtain ⟨ai4,ap8,aj6,rfl⟩:=mY.slice;have Mbr:=zh mY;clear mY;replace G:=zh (bC.later G.out hc4);replace Gd:=zh (bC.later Gd.out hc4);replace Mg:=zh (bC.later Mg.out hc4);replace Mh:=zh (bC.later Mh.out hc4);replace Ma:=zh (bC.later Ma.out hc4);replace BR:=aC.later (BR) hc4;replace bT:=BR.cell;replace bS:=BR.free;replace B1:=aC.later (B1) hc4;replace cB1:=B1.cell;replace qP:=B1.free;replace B0:=aC.later (B0) hc4;replace cB0:=B0.cell;replace jI:=B0.free;go_wp2_with fail
 clear Mbr Hd;refine ((fO _ _ q.num.natAbs h _ aR aR HHp.out ZQ.out).mono (by rw [Ec.out];exact fun _ _ h=>h)).mono ?_;rintro e v5 ⟨v,vr,rfl,mg,hv,mY⟩;obtain ⟨ao0,lMc,as3,rfl⟩:=hv.slice;have Mc:=zh hv;clear hv;obtain ⟨ai3,ap7,aj5,rfl⟩:=mY.slice;have Mcr:=zh mY;clear mY;replace Gd:=zh (bC.later Gd.out mg);replace Mg:=zh (bC.later Mg.out mg);replace Ma:=zh (bC.later Ma.out mg);replace Mb:=zh (bC.later Mb.out mg);replace BR:=aC.later (BR) mg;replace bT:=BR.cell;replace bS:=BR.free;replace B1:=aC.later (B1) mg;replace cB1:=B1.cell;replace qP:=B1.free;replace B0:=aC.later (B0) mg;replace cB0:=B0.cell;replace jI:=B0.free;go_wp2_with fail
 clear Mcr G;refine ((fO _ _ q.den g _ aR aR HGp.out Wm.out).mono (by rw [Ed.out];exact fun _ _ h=>h)).mono ?_;rintro e v6 ⟨v,vr,rfl,hc6,hv,mY⟩;obtain ⟨an9,lMd,as2,rfl⟩:=hv.slice;have Md:=zh hv;clear hv;obtain ⟨ai2,ap6,aj4,rfl⟩:=mY.slice;have Mdr:=zh mY;clear mY;replace Ma:=zh (bC.later Ma.out hc6);replace Mb:=zh (bC.later Mb.out hc6);replace Mc:=zh (bC.later Mc.out hc6);replace BR:=aC.later (BR) hc6;replace bT:=BR.cell;replace bS:=BR.free;replace B1:=aC.later (B1) hc6;replace cB1:=B1.cell;replace qP:=B1.free;replace B0:=aC.later (B0) hc6;replace cB0:=B0.cell;replace jI:=B0.free;go_wp2_with fail
 clear Mdr Gd;refine aT [(.pure,0),(.pure,1),(.pure,3),(.pure,4),(.read,5),(.pure,6),(.pure,7),(.read,8),(.pure,9),(.pure,11),(.pure,12),(.ext,2),(.ext,10),(.ext,13),(.pure,14),(.fin,15)] zk zk zR zP ?_;refine zV ?_;refine aW rfl rfl (fun w7 og J hJ=>?_);go_simp;replace Ma:=zh (bC.carry Ma.out aR og);replace Mb:=zh (bC.carry Mb.out aR og);replace Mc:=zh (bC.carry Mc.out aR og);replace Md:=zh (bC.carry Md.out aR og);replace BR:=aC.later (aC.drew BR) og;replace bT:=BR.cell;replace bS:=BR.free;refine ((jm _ _ a c _ aR aR Ka.out Kc.out).mono (by rw [Es.out];exact fun _ _ h=>h)).mono ?_;rintro e v7 ⟨v,rfl,sG,hv⟩;obtain ⟨an6,lMs,ar9,rfl⟩:=hv.slice;have Ms:=zh hv;clear hv;replace Ma:=zh (bC.later Ma.out sG);replace Mb:=zh (bC.later Mb.out sG);replace Mc:=zh (bC.later Mc.out sG);replace Md:=zh (bC.later Md.out sG)
 replace BR:=aC.later (BR) sG;replace bT:=BR.cell;replace bS:=BR.free;refine hJ _ _ sG ?_;clear hJ J;refine aW rfl rfl (fun w8 BZ J hJ=>?_);go_simp;replace Mb:=zh (bC.later Mb.out BZ);replace Md:=zh (bC.later Md.out BZ);replace Ms:=zh (bC.later Ms.out BZ);replace BR:=aC.later (BR) BZ;replace bT:=BR.cell;replace bS:=BR.free;refine (dU _ s _ _ aR).mono ?_;rintro e v8 ⟨v,rfl,hc8,hv⟩;obtain ⟨an4,lMv,ar7,rfl,Mv⟩:=hv;replace Mv:=zh Mv;replace Mb:=zh (bC.later Mb.out hc8);replace Md:=zh (bC.later Md.out hc8);replace Ms:=zh (bC.later Ms.out hc8);replace BR:=aC.later (BR) hc8;replace bT:=BR.cell;replace bS:=BR.free;refine hJ _ _ hc8 ?_;clear hJ J;refine aW rfl rfl (fun w9 zn J hJ=>?_);go_simp;replace Mb:=zh (bC.later Mb.out zn);replace Md:=zh (bC.later Md.out zn);replace Mv:=zh (bC.later Mv.out zn)
 replace BR:=aC.later (BR) zn;replace bT:=BR.cell;replace bS:=BR.free;refine ((jm _ _ b d _ aR aR Kb.out Kd.out).mono (by rw [Et.out];exact fun _ _ h=>h)).mono ?_;rintro e v9 ⟨v,rfl,uI,hv⟩;obtain ⟨an5,lMt,ar8,rfl⟩:=hv.slice;have Mt:=zh hv;clear hv;replace Mb:=zh (bC.later Mb.out uI);replace Md:=zh (bC.later Md.out uI);replace Mv:=zh (bC.later Mv.out uI);replace BR:=aC.later (BR) uI;replace bT:=BR.cell;replace bS:=BR.free;refine hJ _ _ uI ?_;clear hJ J;refine zV ?_;refine dG [_] rfl (fun w14 Ue=>?_);replace BR:=aC.later (BR) Ue;replace bT:=BR.cell;replace bS:=BR.free;go_wp2_with fail
 refine iT rfl rfl bf Tryz.underlying73 rfl zk ?_;exact ⟨_,rfl,aN,eG.mk (iM s (!(decide (p.num<0) == decide (q.num<0)))).natAbs t aR aR (by rw [HP.out.1]) HP.out.2.symm (by rw [HP.out.1])⟩
theorem rV (w:World) :
  Calls Tryz.prog 33 #[au #[aj none 0 0,ay false,aj none 0 0],Z I 20] w (fun e w'=>e= ah (aD #[au #[O ⟨#[]⟩,O ⟨#[]⟩],Z I 20])∧Below w.heap.size w w'):=by
 go_enter Tryz.func33,Tryz.ntmps33
 go_wp2_with fail
 refine aY rfl rfl bf Tryz.underlying29 rfl zk ?_;exact ⟨rfl,aN⟩
theorem uP (v:Value) (q:Rat) (w:World) (h:eG w v q) (k:qc 1000000 q) (ht:gJ.Pow w) :
  Calls Tryz.prog 33 #[v,Z I 0] w (fun e w'=>e= ah (Fr.res (wr q))∧Below w.heap.size w w'):=by
 obtain ⟨CZ,lH,Ep,O6,mH,O9,rfl,H,Hd⟩:=h;replace H:=zh H;replace Hd:=zh Hd;have HT:=zh ht;have K:=zh k;clear ht k;obtain ⟨x,Ex⟩:∃ y:Wx,Hid (wr q=y):=⟨_,zh rfl⟩;rw [Ex.out];obtain ⟨⟨s,t⟩,e⟩:=x;rw [jV];go_enter Tryz.func33,Tryz.ntmps33
 go_wp2_with fail
 refine ((iG _ q _ (eG.of aR aR) K.out (HT.out.later aN)).mono (by rw [Ex.out,jV];exact fun _ _ h=>h)).mono ?_;rintro e v1 ⟨rfl,hc1⟩;have BR:=aC.later (aC.nS _ _ _ _) hc1;have bT:=BR.cell;have bS:=BR.free;have jd:=BR.lt;go_wp2_with fail
 refine aY rfl rfl bf Tryz.underlying29 rfl zk ?_;exact ⟨rfl,aN⟩
theorem Ko (s t s' t':ByteArray) (w:World) (p q:Rat) (h:rd ⟨s,t⟩=some p) (k:rd ⟨s',t'⟩=some q) :
  Calls Tryz.prog 34 #[au #[O s,O t],au #[O s',O t'],.func (.func 53) #[] #[]] w (fun e w'=>∃ v,e= ah (aD #[v,Z I 0])∧Below w.heap.size w w'∧eG w' v (p*q)):=by
 have HR:=zh (fI h);have HS:=zh (fI k);have KP:=zh ((kG (nI h).2).mono (show 67≤1000000 by omega));have KQ:=zh ((kG (nI k).2).mono (show 67≤1000000 by omega));clear h k;obtain ⟨r,Er⟩:∃ y:Rat,Hid (p*q=y):=⟨_,zh rfl⟩;rw [Er.out];go_enter Tryz.func34,Tryz.ntmps34
 go_wp2_with fail
 refine (HR.out _).mono ?_;rintro e v1 ⟨v,rfl,hc1,hv⟩;obtain ⟨FW,TK,Gw,JI,VW,Ke,rfl,Hp,rE⟩:=hv;replace Hp:=zh Hp;replace rE:=zh rE;have BR:=aC.later (aC.at2 _ _ _ _ _) hc1;have bT:=BR.cell;have bS:=BR.free;have jd:=BR.lt;have B1:=aC.later (aC.alloc (aC.nS _ _ _ _) _) hc1;have cB1:=B1.cell;have qP:=B1.free;have lB1:=B1.lt;go_wp2_with fail
 refine (HS.out _).mono ?_;rintro e v2 ⟨v,rfl,hc2,hv⟩;obtain ⟨qZ,Fe,ru,sW,IK,uw,rfl,Hq,mI⟩:=hv;replace Hq:=zh Hq;replace mI:=zh mI;replace Hp:=zh (bC.carry Hp.out aR hc2);replace rE:=zh (bC.carry rE.out aR hc2);replace X1:aC _ (v1.heap.size) _ _:=aC.later bf hc2;(try simp only [List.setIfInBounds_toArray,aG,aH] at X1);replace zq:=X1.cell;replace Fg:=X1.free;replace zm:=X1.lt;replace BR:aC _ (w.heap.size+1+1) _ _:=aC.later bf hc2;(try simp only [List.setIfInBounds_toArray,aG,aH] at BR);replace bT:=BR.cell;replace bS:=BR.free;replace jd:=BR.lt;go_wp2_with fail
 refine ((MQ _ _ p q _ (eG.of aR aR) (eG.of aR aR) KP.out KQ.out).mono (by rw [Er.out];exact fun _ _ h=>h)).mono ?_;rintro e v3 ⟨v,rfl,hc3,hv⟩;obtain ⟨Mx,XK,Oi,Tw,mHr,Uz,rfl,Hr,GR⟩:=hv;replace Hr:=zh Hr;replace GR:=zh GR;replace BR:aC _ (w.heap.size+1+1) _ _:=aC.later bf hc3;(try simp only [List.setIfInBounds_toArray,aG,aH] at BR);replace bT:=BR.cell;replace bS:=BR.free;replace jd:=BR.lt;go_wp2_with fail
 refine aY rfl rfl bf Tryz.underlying73 rfl zk ?_;exact ⟨_,rfl,aN,eG.of aR aR⟩
theorem zX (s t s' t':ByteArray) (w:World) (h:rd ⟨s,t⟩=none∨rd ⟨s',t'⟩=none) :
  Calls Tryz.prog 34 #[au #[O s,O t],au #[O s',O t'],.func (.func 53) #[] #[]] w (fun e w'=>e= ah (aD #[au #[aj none 0 0,ay false,aj none 0 0],Z I 20])∧Below w.heap.size w w'):=by
 cases h1:rd ⟨s,t⟩ with
 | none =>
  have HR:=zh (fT h1);cases k:rd ⟨s',t'⟩ with
  | none =>
   have HS:=zh (fT k);clear h k h1;go_enter Tryz.func34,Tryz.ntmps34
   go_wp2_with fail
   refine (HR.out _).mono ?_;rintro e v1 ⟨rfl,hc1⟩;have BR:=aC.later (aC.at2 _ _ _ _ _) hc1;have bT:=BR.cell;have bS:=BR.free;have jd:=BR.lt;have B1:=aC.later (aC.alloc (aC.nS _ _ _ _) _) hc1;have cB1:=B1.cell;have qP:=B1.free;have lB1:=B1.lt;go_wp2_with fail
   refine (HS.out _).mono ?_;rintro e v2 ⟨rfl,hc2⟩;replace BR:aC _ (w.heap.size+1+1) _ _:=aC.later bf hc2;replace bT:=BR.cell;replace bS:=BR.free;replace jd:=BR.lt;have q1:w.heap.size+1<v2.heap.size:=by omega
   go_wp2_with fail
   refine aY rfl rfl bf Tryz.underlying73 rfl zk ?_;exact ⟨rfl,aN⟩
  | some q =>
   have HS:=zh (fI k);clear h k h1;go_enter Tryz.func34,Tryz.ntmps34
   go_wp2_with fail
   refine (HR.out _).mono ?_;rintro e v1 ⟨rfl,hc1⟩;have BR:=aC.later (aC.at2 _ _ _ _ _) hc1;have bT:=BR.cell;have bS:=BR.free;have jd:=BR.lt;have B1:=aC.later (aC.alloc (aC.nS _ _ _ _) _) hc1;have cB1:=B1.cell;have qP:=B1.free;have lB1:=B1.lt;go_wp2_with fail
   refine (HS.out _).mono ?_;rintro e v2 ⟨v,rfl,hc2,hv⟩;obtain ⟨qZ,Fe,ru,sW,IK,uw,rfl,Hq,mI⟩:=hv;replace Hq:=zh Hq;replace mI:=zh mI;replace BR:aC _ (w.heap.size+1+1) _ _:=aC.later bf hc2;replace bT:=BR.cell;replace bS:=BR.free;replace jd:=BR.lt;have q1:w.heap.size+1<v2.heap.size:=by omega
   go_wp2_with fail
   refine aY rfl rfl bf Tryz.underlying73 rfl zk ?_;exact ⟨rfl,aN⟩
 | some p =>
  have HR:=zh (fI h1);cases k:rd ⟨s',t'⟩ with
  | none =>
   have HS:=zh (fT k);clear h k h1;go_enter Tryz.func34,Tryz.ntmps34
   go_wp2_with fail
   refine (HR.out _).mono ?_;rintro e v1 ⟨v,rfl,hc1,hv⟩;obtain ⟨FW,TK,Gw,JI,VW,Ke,rfl,Hp,rE⟩:=hv;replace Hp:=zh Hp;replace rE:=zh rE;have BR:=aC.later (aC.at2 _ _ _ _ _) hc1;have bT:=BR.cell;have bS:=BR.free;have jd:=BR.lt;have B1:=aC.later (aC.alloc (aC.nS _ _ _ _) _) hc1;have cB1:=B1.cell;have qP:=B1.free;have lB1:=B1.lt;go_wp2_with fail
   refine (HS.out _).mono ?_;rintro e v2 ⟨rfl,hc2⟩;replace BR:aC _ (w.heap.size+1+1) _ _:=aC.later bf hc2;replace bT:=BR.cell;replace bS:=BR.free;replace jd:=BR.lt;have q1:w.heap.size+1<v2.heap.size:=by omega
   go_wp2_with fail
   refine aY rfl rfl bf Tryz.underlying73 rfl zk ?_;exact ⟨rfl,aN⟩
  | some q=>rw [h1,k] at h;simp at h
theorem yU (a b:Fr) (w:World) (ht:gJ.Pow w) :
  Calls Tryz.prog 113 #[a.v,b.v] w (fun e w'=>e= ah (Fr.res (MR a b))∧Below w.heap.size w w'):=by
 obtain ⟨s,t⟩:=a;obtain ⟨s',t'⟩:=b
 show Calls _ _ #[au #[O s,O t],au #[O s',O t']] _ _
 unfold MR;have HT:=zh ht;clear ht
 by_cases hbad:rd ⟨s,t⟩=none∨rd ⟨s',t'⟩=none
 ·have e:∀ f,bin f ⟨s,t⟩ ⟨s',t'⟩=(Fr.no,20):=fun f=>by
   rcases hbad with h|h
   ·exact wQ h
   ·exact wP h
  rw [e];have HA:=zh (fun w=>zX s t s' t' w hbad);clear hbad e;go_enter Tryz.func113,Tryz.ntmps113
  go_wp2_with fail
  refine (HA.out _).mono ?_;rintro e v1 ⟨rfl,hc1⟩;have BR:=aC.later (aC.at2 _ _ _ _ _) hc1;have bT:=BR.cell;have bS:=BR.free;have jd:=BR.lt;go_wp2_with fail
  refine (rV _).mono ?_;rintro e v2 ⟨rfl,hc2⟩;replace BR:=aC.later (BR) hc2;replace bT:=BR.cell;replace bS:=BR.free;replace jd:=BR.lt;go_wp2_with fail
  refine aY rfl rfl bf Tryz.underlying29 rfl zk ?_;exact ⟨rfl,aN⟩
 ·obtain ⟨p,hp⟩:∃ p,rd ⟨s,t⟩=some p:=Option.ne_none_iff_exists'.1 (fun e=>hbad (.inl e));obtain ⟨q,hq⟩:∃ q,rd ⟨s',t'⟩=some q:=Option.ne_none_iff_exists'.1 (fun e=>hbad (.inr e));rw [uD hp hq];have KP:=zh (kG (nI hp).2);have KQ:=zh (kG (nI hq).2);have HA:=zh (fun w=>Ko s t s' t' w p q hp hq);have KR:Hid (qc 1000000 (p*q)):=zh (qc.mono (k:=135) ((Ib KP.out KQ.out).mono zo) zo);clear hp hq hbad KP KQ;obtain ⟨r,Er⟩:∃ y:Rat,Hid (p*q=y):=⟨_,zh rfl⟩;simp only [Er.out] at KR HA ⊢;obtain ⟨x,Ex⟩:∃ y:Wx,Hid (wr r=y):=⟨_,zh rfl⟩;rw [Ex.out];obtain ⟨⟨s1,t1⟩,e⟩:=x;rw [jV];go_enter Tryz.func113,Tryz.ntmps113
  go_wp2_with fail
  refine (HA.out _).mono ?_;rintro e v1 ⟨v,rfl,hc1,hv⟩;obtain ⟨Mx,XK,Oi,Tw,mHr,Uz,rfl,Hr,GR⟩:=hv;replace Hr:=zh Hr;replace GR:=zh GR;have BR:=aC.later (aC.at2 _ _ _ _ _) hc1;have bT:=BR.cell;have bS:=BR.free;have jd:=BR.lt;go_wp2_with fail
  refine ((uP _ r _ (eG.of aR aR) KR.out (HT.out.later aN)).mono (by rw [Ex.out,jV];exact fun _ _ h=>h)).mono ?_;rintro e v2 ⟨rfl,hc2⟩;replace BR:=aC.later (BR) hc2;replace bT:=BR.cell;replace bS:=BR.free;replace jd:=BR.lt;go_wp2_with fail
  refine aY rfl rfl bf Tryz.underlying29 rfl zk ?_;exact ⟨rfl,aN⟩
end Go.Proofs.dD
