/- Lemmas for the proof. No condition. -/
import Derived.Test.YtbngfhgoeoncmaaGreatDoorTB20
set_option linter.unusedVariables false
set_option linter.unusedSimpArgs false
set_option maxRecDepth 100000
set_option maxHeartbeats 16000000
open Go.Ending renaming returned → ah
open Go.IntKind renaming i64 → I
open Go.Value renaming agg → aB, bool → aC, int → Z, slice → aj, string → O, tuple → aF
open List renaming set_cons_succ → aJ, set_cons_zero → aI
open Nat renaming le_trans → ay
namespace Go.Proofs.dw
open Go Go.RowKit Go.SW Go.Num Go.Mem Go.Proofs Go.Dec Go.d9
theorem fI {s t:ByteArray} {q:Rat} (h:rd ⟨s,t⟩=some q) (w:World):Calls Tryz.prog 90 #[aB #[O s,O t]] w (He w q):=by
 obtain ⟨e,hq⟩:=mX h;have:=LK q hq w;rw [← e] at this;exact this
theorem gB {s t:ByteArray} (h:rd ⟨s,t⟩=none) (w:World):Calls Tryz.prog 90 #[aB #[O s,O t]] w (pO w):=LM ⟨s,t⟩ h w
theorem gQ (a:Fr) (w:World) :
  Calls Tryz.prog 69 #[a.v] w (fun e w'=>e= ah (Z I (Cc a))∧Below w.heap.size w w'):=by
 obtain ⟨s,t⟩:=a
 show Calls _ _ #[aB #[O s,O t]] _ _
 unfold Cc;cases h:rd ⟨s,t⟩ with
 | none =>
  have HR:=zh (gB h);clear h;go_enter Tryz.func69,Tryz.ntmps69
  go_wp2_with fail
  refine (HR.out _).mono ?_;rintro e v1 ⟨rfl,hc1⟩;go_wp2_with fail
  go_ret
  exact ⟨rfl,aO⟩
 | some q =>
  have HR:=zh (fI h);clear h;go_enter Tryz.func69,Tryz.ntmps69
  go_wp2_with fail
  refine (HR.out _).mono ?_;rintro e v1 ⟨v,rfl,hc1,hv⟩;obtain ⟨xH,Ny,xR,Bf,Rf,Bo,rfl,Hq,qP⟩:=hv;replace Hq:=zh Hq;replace qP:=zh qP;go_wp2_with fail
  go_ret
  exact ⟨rfl,aO⟩
def pair (x:Int × Int):Value:=aF #[Z I x.1,Z I x.2]
theorem vB (a:Fr) (w:World) :
  Calls Tryz.prog 75 #[a.v] w (fun e w'=>e= ah (pair (nU a))∧Below w.heap.size w w'):=by
 obtain ⟨s,t⟩:=a
 show Calls _ _ #[aB #[O s,O t]] _ _
 unfold nU;cases h:rd ⟨s,t⟩ with
 | none =>
  have HR:=zh (gB h);clear h;go_enter Tryz.func75,Tryz.ntmps75
  go_wp2_with fail
  refine (HR.out _).mono ?_;rintro e v1 ⟨rfl,hc1⟩;go_wp2_with fail
  go_ret2
  exact ⟨rfl,aO⟩
 | some q =>
  have HR:=zh (fI h);have e:=LD q;simp only;rw [← e];clear h e;go_enter Tryz.func75,Tryz.ntmps75
  go_wp2_with fail
  refine (HR.out _).mono ?_;rintro e v1 ⟨v,rfl,hc1,hv⟩;obtain ⟨xH,Ny,xR,Bf,Rf,Bo,rfl,Hq,qP⟩:=hv;replace Hq:=zh Hq;replace qP:=zh qP;go_wp2_with fail
  refine (uK _ q.num _ (bW.dx aK)).mono ?_;rintro e v2 ⟨rfl,hc2⟩;go_wp2_with fail
  go_ret2
  exact ⟨rfl,aO⟩
theorem GI (s t s' t':ByteArray) (w:World) :
  Calls Tryz.prog 87 #[aB #[O s,O t],aB #[O s',O t'],.func (.func 88) #[] #[]] w (fun e w'=>e= ah (pair (uE ⟨s,t⟩ ⟨s',t'⟩))∧Below w.heap.size w w'):=by
 unfold uE;cases h:rd ⟨s,t⟩ with
 | none =>
  have HR:=zh (gB h);cases k:rd ⟨s',t'⟩ with
  | none =>
   have HS:=zh (gB k);clear h k;go_enter Tryz.func87,Tryz.ntmps87
   go_wp2_with fail
   refine (HR.out _).mono ?_;rintro e v1 ⟨rfl,hc1⟩;have B1:=aA.later (aA.nX _ _ _ _) hc1;have cB1:=B1.cell;have nW:=B1.free;have lB1:=B1.lt;go_wp2_with fail
   refine (HS.out _).mono ?_;rintro e v2 ⟨rfl,hc2⟩;go_wp2_with fail
   go_ret2
   exact ⟨rfl,aO⟩
  | some q =>
   have HS:=zh (fI k);clear h k;go_enter Tryz.func87,Tryz.ntmps87
   go_wp2_with fail
   refine (HR.out _).mono ?_;rintro e v1 ⟨rfl,hc1⟩;have B1:=aA.later (aA.nX _ _ _ _) hc1;have cB1:=B1.cell;have nW:=B1.free;have lB1:=B1.lt;go_wp2_with fail
   refine (HS.out _).mono ?_;rintro e v2 ⟨v,rfl,hc2,hv⟩;obtain ⟨xH,Ny,xR,Bf,Rf,Bo,rfl,Hq,qP⟩:=hv;replace Hq:=zh Hq;replace qP:=zh qP;go_wp2_with fail
   go_ret2
   exact ⟨rfl,aO⟩
 | some p =>
  have HR:=zh (fI h);cases k:rd ⟨s',t'⟩ with
  | none =>
   have HS:=zh (gB k);clear h k;go_enter Tryz.func87,Tryz.ntmps87
   go_wp2_with fail
   refine (HR.out _).mono ?_;rintro e v1 ⟨v,rfl,hc1,hv⟩;obtain ⟨IE,WC,Jm,LW,Yx,MW,rfl,Hp,tO⟩:=hv;replace Hp:=zh Hp;replace tO:=zh tO;have B1:=aA.later (aA.nX _ _ _ _) hc1;have cB1:=B1.cell;have nW:=B1.free;have lB1:=B1.lt;go_wp2_with fail
   refine (HS.out _).mono ?_;rintro e v2 ⟨rfl,hc2⟩;go_wp2_with fail
   go_ret2
   exact ⟨rfl,aO⟩
  | some q =>
   have HS:=zh (fI k);have KP:=zh ((jH (mX h).2).mono (show 67≤1000000 by omega));have KQ:=zh ((jH (mX k).2).mono (show 67≤1000000 by omega));clear h k;go_enter Tryz.func87,Tryz.ntmps87
   go_wp2_with fail
   refine (HR.out _).mono ?_;rintro e v1 ⟨v,rfl,hc1,hv⟩;obtain ⟨IE,WC,Jm,LW,Yx,MW,rfl,Hp,tO⟩:=hv;replace Hp:=zh Hp;replace tO:=zh tO;have B1:=aA.later (aA.nX _ _ _ _) hc1;have cB1:=B1.cell;have nW:=B1.free;have lB1:=B1.lt;go_wp2_with fail
   refine (HS.out _).mono ?_;rintro e v2 ⟨v,rfl,hc2,hv⟩;obtain ⟨xH,Ny,xR,Bf,Rf,Bo,rfl,Hq,qP⟩:=hv;replace Hq:=zh Hq;replace qP:=zh qP;replace X1:aA _ (v1.heap.size) _ _:=aA.later aY hc2;(try simp only [List.setIfInBounds_toArray,aI,aJ] at X1);replace Qz:=X1.cell;replace fX1:=X1.free;replace Pp:=X1.lt;go_wp2_with fail
   refine (OM _ _ p q _ (fA.of aK aK) (fA.of aK aK) KP.out KQ.out).mono ?_;rintro e v3 ⟨rfl,hc3⟩;go_wp2_with fail
   go_ret2
   exact ⟨rfl,aO⟩
theorem DR (a b:Fr) (w:World) :
  Calls Tryz.prog 36 #[a.v,b.v] w (fun e w'=>e= ah (pair (uE a b))∧Below w.heap.size w w'):=by
 obtain ⟨s,t⟩:=a;obtain ⟨s',t'⟩:=b
 show Calls _ _ #[aB #[O s,O t],aB #[O s',O t']] _ _
 have H:=zh (GI s t s' t');unfold pair at *;generalize uE ⟨s,t⟩ ⟨s',t'⟩=c at *;obtain ⟨x,y⟩:=c;go_enter Tryz.func36,Tryz.ntmps36
 go_wp2_with fail
 refine (H.out _).mono ?_;rintro e v1 ⟨rfl,hc1⟩;go_wp2_with fail
 go_ret2
 exact ⟨rfl,aO⟩
theorem Uf (n d:Int) (hl1:(Lib.decDigits n.natAbs).length≤600) (hl2:(Lib.decDigits d.natAbs).length≤600) (w:World) (ht:iA.Pow w) :
  Calls Tryz.prog 85 #[O ⟨(Lib.itoa n).toArray⟩,O ⟨(Lib.itoa d).toArray⟩] w (fun e w'=>e= ah (Fr.res (oh n d))∧Below w.heap.size w w'):=by
 have HC:=zh (jQ (s:=⟨(Lib.itoa n).toArray⟩) (eT hl1));have HD:=zh (jQ (s:=⟨(Lib.itoa d).toArray⟩) (eT hl2));have Rn:=zh hl1;have HL2:=zh hl2;have S1:=kW (eZ.2 hl1);have S2:=kW (eZ.2 hl2);have HT:=zh ht;clear ht hl1 hl2
 by_cases h0:d=0
 ·have e:Fr.res (oh n d)= aF #[aB #[O ⟨#[]⟩,O ⟨#[]⟩],Z I 7]:=by unfold oh;rw [if_pos h0];rfl
  rw [e];have hz:decide (d.natAbs=0)=true:=by simp;omega
  have HZ:=zh hz;clear e h0 hz S1 S2;go_enter Tryz.func85,Tryz.ntmps85
  go_wp2_with fail
  refine (HC.out _).mono ?_;rintro e v1 ⟨rfl,hc1⟩;have BR:=aA.later (aA.new _ _ _) hc1;have bR:=BR.cell;have bQ:=BR.free;have gT:=BR.lt;go_wp2_with fail
  refine (HD.out _).mono ?_;rintro e v2 ⟨rfl,hc2⟩;replace BR:=aA.later (BR) hc2;replace bR:=BR.cell;replace bQ:=BR.free;replace gT:=BR.lt;go_wp2_with fail
  refine (gU n Rn.out _).mono ?_;rintro e v3 ⟨v,rfl,hc3,hv⟩;obtain ⟨L6,Yy,MZ,rfl,HN⟩:=hv;replace HN:=zh HN;replace BR:=aA.later (BR) hc3;replace bR:=BR.cell;replace bQ:=BR.free;replace gT:=BR.lt;go_wp2_with fail
  refine (gU d HL2.out _).mono ?_;rintro e v4 ⟨v,rfl,hc4,hv⟩;obtain ⟨L8,Yz,M0,rfl,HM⟩:=hv;replace HM:=zh HM;replace BR:=aA.later (BR) hc4;replace bR:=BR.cell;replace bQ:=BR.free;replace gT:=BR.lt;go_wp2_with fail
  refine (gM _ d.natAbs _ aK).mono ?_;rintro e v5 ⟨rfl,rfl⟩;rw [HZ.out];go_wp2_with fail
  refine bE rfl rfl aY Tryz.underlying38 rfl zk ?_;exact ⟨rfl,aO⟩
 ·have e:oh n d=wr (mkRat (iZ n.natAbs (!(decide (n<0) == decide (d<0)))) d.natAbs):=by unfold oh;rw [if_neg h0,Ki n d h0]
  rw [e];have hz:decide (d.natAbs=0)=false:=by simp;omega
  have HZ:=zh hz;have hdp:0<d.natAbs:=by omega
  have HDP:=zh hdp;obtain ⟨f,Ef⟩:∃ y:Bool,Hid (Bool.not (decide (n<0) == decide (d<0))=y):=⟨_,zh rfl⟩;obtain ⟨s,Es⟩:∃ y:Int,Hid (iZ n.natAbs f=y):=⟨_,zh rfl⟩;rw [Ef.out,Es.out];have hs:sz 1000000000 s.natAbs≤67:=by rw [← Es.out,jg];exact S1
  have KS:=zh (ay hs (show 67≤549755813888 by omega));have KD:=zh (ay S2 (show 67≤549755813888 by omega))
  have KQ:Hid (rW 1000000 (mkRat s d.natAbs)):=by
   have hp:=rE s hdp;refine zh ⟨?_,?_⟩
   ·rw [hp.1,jg];exact ay iF zo
   ·rw [hp.2];exact ay iF zo
  obtain ⟨q,Eq⟩:∃ y:Rat,Hid (mkRat s d.natAbs=y):=⟨_,zh rfl⟩;rw [Eq.out] at KQ ⊢;obtain ⟨x,Ex⟩:∃ y:FrI,Hid (wr q=y):=⟨_,zh rfl⟩;rw [Ex.out];clear e;obtain ⟨⟨s1,t1⟩,e⟩:=x;rw [oD];clear h0 hz hdp hs S1 S2;go_enter Tryz.func85,Tryz.ntmps85
  go_wp2_with fail
  refine (HC.out _).mono ?_;rintro e v1 ⟨rfl,hc1⟩;have BR:=aA.later (aA.new _ _ _) hc1;have bR:=BR.cell;have bQ:=BR.free;have gT:=BR.lt;go_wp2_with fail
  refine (HD.out _).mono ?_;rintro e v2 ⟨rfl,hc2⟩;replace BR:=aA.later (BR) hc2;replace bR:=BR.cell;replace bQ:=BR.free;replace gT:=BR.lt;go_wp2_with fail
  refine (gU n Rn.out _).mono ?_;rintro e v3 ⟨v,rfl,hc3,hv⟩;obtain ⟨L6,Yy,MZ,rfl,HN⟩:=hv;replace HN:=zh HN;replace BR:=aA.later (BR) hc3;replace bR:=BR.cell;replace bQ:=BR.free;replace gT:=BR.lt;go_wp2_with fail
  refine (gU d HL2.out _).mono ?_;rintro e v4 ⟨v,rfl,hc4,hv⟩;obtain ⟨L8,Yz,M0,rfl,HM⟩:=hv;replace HM:=zh HM;replace HN:=zh (aT.later HN.out hc4);replace BR:=aA.later (BR) hc4;replace bR:=BR.cell;replace bQ:=BR.free;replace gT:=BR.lt;go_wp2_with fail
  refine (gM _ d.natAbs _ aK).mono ?_;rintro e v5 ⟨rfl,rfl⟩;rw [HZ.out];go_wp2_with fail
  refine aQ [(.pure,0),(.read,1),(.pure,2),(.read,3),(.pure,4),(.read,5),(.pure,6),(.pure,8),(.read,9),(.ext,7),(.ext,10),(.ext,11),(.pure,12),(.pure,13),(.fin,14),(.fin,15)] zk zk zR zP ?_;refine zV ?_;refine aN rfl rfl (fun w6 hb6 J hJ=>?_);go_simp;replace HM:=zh (aT.carry HM.out aK hb6);replace BR:aA _ (w.heap.size) _ _:=aA.later aY hb6;(try simp only [List.setIfInBounds_toArray,aI,aJ] at BR);replace bR:=BR.cell;replace bQ:=BR.free;replace gT:=BR.lt;refine ((dM _ n.natAbs _ _ aK).mono (by rw [show (Bool.not (decide (n<0) == decide (d<0)))=f from Ef.out,Es.out];exact fun _ _ h=>h)).mono ?_;rintro e v6 ⟨v,rfl,hc6,hv⟩;obtain ⟨xG,Nw,xQ,rfl,Hs⟩:=hv;replace Hs:=zh Hs;replace HM:=zh (aT.later HM.out hc6);replace BR:=aA.later (BR) hc6;replace bR:=BR.cell;replace bQ:=BR.free;replace gT:=BR.lt;refine hJ _ _ hc6 ?_
  clear hJ J;refine aN rfl rfl (fun w7 mJ J hJ=>?_);go_simp;replace HM:=zh (aT.later HM.out mJ);replace Hs:=zh (aT.later Hs.out mJ);replace BR:=aA.later (BR) mJ;replace bR:=BR.cell;replace bQ:=BR.free;replace gT:=BR.lt;refine ((Iu _ _ s d.natAbs _ (bW.dx aK) aK HDP.out KS.out KD.out).mono (by rw [Eq.out];exact fun _ _ h=>h)).mono ?_;rintro e v7 ⟨v,rfl,AX,hv⟩;obtain ⟨xH,Ny,xR,Bf,Rf,Bo,rfl,Hq,qP⟩:=hv;replace Hq:=zh Hq;replace qP:=zh qP;replace HM:=zh (aT.later HM.out AX);replace Hs:=zh (aT.later Hs.out AX);replace BR:=aA.later (BR) AX;replace bR:=BR.cell;replace bQ:=BR.free;replace gT:=BR.lt;refine hJ _ _ AX ?_;clear hJ J;refine aN rfl rfl (fun w8 xI J hJ=>?_);go_simp;replace BR:=aA.later (BR) xI;replace bR:=BR.cell;replace bQ:=BR.free;replace gT:=BR.lt
  refine ((jo _ q _ (fA.of aK aK) KQ.out (HT.out.later aO)).mono (by rw [Ex.out,oD];exact fun _ _ h=>h)).mono ?_;rintro e v8 ⟨rfl,hc8⟩;replace BR:=aA.later (BR) hc8;replace bR:=BR.cell;replace bQ:=BR.free;replace gT:=BR.lt;refine hJ _ _ hc8 ?_;clear hJ J;refine zV ?_;refine bT [_,_] rfl (fun w9 xZ=>?_);replace BR:=aA.later (BR) xZ;replace bR:=BR.cell;replace bQ:=BR.free;replace gT:=BR.lt;go_wp2_with fail
  refine bE rfl rfl aY Tryz.underlying38 rfl zk ?_;exact ⟨rfl,aO⟩
theorem KH (z:Int) (h0: -9223372036854775808≤z) (h1:z≤9223372036854775807):(Lib.decDigits z.natAbs).length≤600 :=
 ay (lW 19 z.natAbs zo zo) zo
theorem vD (n d:Int) (n0: -9223372036854775808≤n) (n1:n≤9223372036854775807) (d0: -9223372036854775808≤d) (d1:d≤9223372036854775807) (w:World) (ht:iA.Pow w) :
  Calls Tryz.prog 35 #[Z I n,Z I d] w (fun e w'=>e= ah (Fr.res (oh n d))∧Below w.heap.size w w'):=by
 have H1:=zh (fun w ht=>whole.OP n n0 n1 w ht);have H2:=zh (fun w ht=>whole.OP d d0 d1 w ht);have H3:=zh (fun w ht=>Uf n d (KH n n0 n1) (KH d d0 d1) w ht);have HT:=zh ht;clear ht n0 n1 d0 d1;obtain ⟨x,Ex⟩:∃ y:FrI,Hid (oh n d=y):=⟨_,zh rfl⟩;rw [Ex.out];obtain ⟨⟨s1,t1⟩,e⟩:=x;rw [oD];go_enter Tryz.func35,Tryz.ntmps35
 go_wp2_with fail
 refine ((H1.out _ (HT.out.later aO)).mono (fun _ _ h=>by unfold dX at h;exact h)).mono ?_;rintro e v1 ⟨rfl,hc1⟩;have BR:=aA.later (aA.new _ _ _) hc1;have bR:=BR.cell;have bQ:=BR.free;have gT:=BR.lt;go_wp2_with fail
 refine ((H2.out _ (HT.out.later aO)).mono (fun _ _ h=>by unfold dX at h;exact h)).mono ?_;rintro e v2 ⟨rfl,hc2⟩;replace BR:=aA.later (BR) hc2;replace bR:=BR.cell;replace bQ:=BR.free;replace gT:=BR.lt;go_wp2_with fail
 refine ((H3.out _ (HT.out.later aO)).mono (by rw [Ex.out,oD];exact fun _ _ h=>h)).mono ?_;rintro e v3 ⟨rfl,hc3⟩;replace BR:=aA.later (BR) hc3;replace bR:=BR.cell;replace bQ:=BR.free;replace gT:=BR.lt;go_wp2_with fail
 refine bE rfl rfl aY Tryz.underlying38 rfl zk ?_;exact ⟨rfl,aO⟩
theorem OY (x y:Value) (p q:Rat) (w:World) (hx:fA w x p) (hy:fA w y q) (kp:rW 1000000 p) (kq:rW 1000000 q) :
  Calls Tryz.prog 39 #[x,y] w (fun e w'=>∃ v,e= ah v∧Below w.heap.size w w'∧fA w' v (p*q)):=by
 obtain ⟨BM,lH,Ce,Rc,mH,Rj,rfl,H,Hd⟩:=hx;replace H:=zh H;replace Hd:=zh Hd;obtain ⟨Sj,lG,TN,pbG,mG,cbG,rfl,G,Gd⟩:=hy;replace G:=zh G;replace Gd:=zh Gd;have HP:=zh (IQ p q);have hp:=p.den_pos;have hq:=q.den_pos;have hg:0<p.num.natAbs.gcd q.den:=Nat.gcd_pos_of_pos_right _ hq;have hh:0<q.num.natAbs.gcd p.den:=Nat.gcd_pos_of_pos_right _ hp;obtain ⟨YD,YC⟩:=kp;obtain ⟨YB,YA⟩:=kq;obtain ⟨g,Eg⟩:∃ y:Nat,Hid (p.num.natAbs.gcd q.den=y):=⟨_,zh rfl⟩;rw [Eg.out] at hg HP;obtain ⟨h,Eh⟩:∃ y:Nat,Hid (q.num.natAbs.gcd p.den=y):=⟨_,zh rfl⟩;rw [Eh.out] at hh HP;have k1:= @iF p.num.natAbs g;have k2:= @iF p.den h;have k3:= @iF q.num.natAbs h;have k4:= @iF q.den g;obtain ⟨a,Ea⟩:∃ y:Nat,Hid (p.num.natAbs / g=y):=⟨_,zh rfl⟩;rw [Ea.out] at HP k1;obtain ⟨b,Eb⟩:∃ y:Nat,Hid (p.den / h=y):=⟨_,zh rfl⟩;rw [Eb.out] at HP k2;obtain ⟨c,Ec⟩:∃ y:Nat,Hid (q.num.natAbs / h=y):=⟨_,zh rfl⟩
 rw [Ec.out] at HP k3;obtain ⟨d,Ed⟩:∃ y:Nat,Hid (q.den / g=y):=⟨_,zh rfl⟩;rw [Ed.out] at HP k4;obtain ⟨s,Es⟩:∃ y:Nat,Hid (a*c=y):=⟨_,zh rfl⟩;rw [Es.out] at HP;obtain ⟨t,Et⟩:∃ y:Nat,Hid (b*d=y):=⟨_,zh rfl⟩;rw [Et.out] at HP;have HGp:=zh hg;have HHp:=zh hh;have Kpn:Hid (sz 1000000000 p.num.natAbs≤549755813888):=by unfold Hid;omega
 have Kqn:Hid (sz 1000000000 q.num.natAbs≤549755813888):=by unfold Hid;omega
 have Kpd:Hid (sz 1000000000 p.den≤549755813888):=by unfold Hid;omega
 have YP:Hid (sz 1000000000 q.den≤549755813888):=by unfold Hid;omega
 have Ka:Hid (sz 1000000000 a≤1099511627776):=by unfold Hid;omega
 have Kb:Hid (sz 1000000000 b≤1099511627776):=by unfold Hid;omega
 have Kc:Hid (sz 1000000000 c≤1099511627776):=by unfold Hid;omega
 have Kd:Hid (sz 1000000000 d≤1099511627776):=by unfold Hid;omega
 clear k1 k2 k3 k4 YD YC YB YA hg hh hp hq;go_enter Tryz.func39,Tryz.ntmps39
 go_wp2_with fail
 refine ((mV _ _ p.num.natAbs q.den _ aK aK Kpn.out YP.out).mono (by rw [Eg.out];exact fun _ _ h=>h)).mono ?_;rintro e v1 ⟨v,rfl,hc1,hv⟩;obtain ⟨as7,lMg,ay1,rfl⟩:=hv.slice;have Mg:=zh hv;clear hv;replace H:=zh (aT.carry H.out aK hc1);replace Hd:=zh (aT.carry Hd.out aK hc1);replace G:=zh (aT.carry G.out aK hc1);replace Gd:=zh (aT.carry Gd.out aK hc1);have BR:=aA.later (aA.at2 _ _ _ _ _) hc1;have bR:=BR.cell;have bQ:=BR.free;have B1:=aA.later (aA.alloc (aA.nX _ _ _ _) _) hc1;have cB1:=B1.cell;have nW:=B1.free;have B0:=aA.later (aA.alloc (aA.alloc (aA.new _ _ _) _) _) hc1;have cB0:=B0.cell;have jc:=B0.free;go_wp2_with fail
 refine ((mV _ _ q.num.natAbs p.den _ aK aK Kqn.out Kpd.out).mono (by rw [Eh.out];exact fun _ _ h=>h)).mono ?_;rintro e v2 ⟨v,rfl,hc2,hv⟩;obtain ⟨as6,lMh,ay0,rfl⟩:=hv.slice;have Mh:=zh hv;clear hv;replace H:=zh (aT.later H.out hc2);replace Hd:=zh (aT.later Hd.out hc2);replace G:=zh (aT.later G.out hc2);replace Gd:=zh (aT.later Gd.out hc2);replace Mg:=zh (aT.later Mg.out hc2);replace BR:=aA.later (BR) hc2;replace bR:=BR.cell;replace bQ:=BR.free;replace B1:=aA.later (B1) hc2;replace cB1:=B1.cell;replace nW:=B1.free;replace B0:=aA.later (B0) hc2;replace cB0:=B0.cell;replace jc:=B0.free;go_wp2_with fail
 refine ((dG _ _ p.num.natAbs g _ aK aK HGp.out Kpn.out).mono (by rw [Ea.out];exact fun _ _ h=>h)).mono ?_;rintro e v3 ⟨v,vr,rfl,hc3,hv,ji⟩;obtain ⟨at5,lMa,ay5,rfl⟩:=hv.slice;have Ma:=zh hv;clear hv;obtain ⟨ap6,av8,ar0,rfl⟩:=ji.slice;have Mar:=zh ji;clear ji;replace Hd:=zh (aT.later Hd.out hc3);replace G:=zh (aT.later G.out hc3);replace Gd:=zh (aT.later Gd.out hc3);replace Mg:=zh (aT.later Mg.out hc3);replace Mh:=zh (aT.later Mh.out hc3);replace BR:=aA.later (BR) hc3;replace bR:=BR.cell;replace bQ:=BR.free;replace B1:=aA.later (B1) hc3;replace cB1:=B1.cell;replace nW:=B1.free;replace B0:=aA.later (B0) hc3;replace cB0:=B0.cell;replace jc:=B0.free;go_wp2_with fail
 clear Mar H;refine ((dG _ _ p.den h _ aK aK HHp.out Kpd.out).mono (by rw [Eb.out];exact fun _ _ h=>h)).mono ?_;rintro e v4 ⟨v,vr,rfl,hc4,hv,ji⟩;obtain ⟨at0,lMb,ay4,rfl⟩:=hv.slice;have Mb:=zh hv;clear hv;obtain ⟨ap5,av7,aq9,rfl⟩:=ji.slice;have Mbr:=zh ji;clear ji;replace G:=zh (aT.later G.out hc4);replace Gd:=zh (aT.later Gd.out hc4);replace Mg:=zh (aT.later Mg.out hc4);replace Mh:=zh (aT.later Mh.out hc4);replace Ma:=zh (aT.later Ma.out hc4);replace BR:=aA.later (BR) hc4;replace bR:=BR.cell;replace bQ:=BR.free;replace B1:=aA.later (B1) hc4;replace cB1:=B1.cell;replace nW:=B1.free;replace B0:=aA.later (B0) hc4;replace cB0:=B0.cell;replace jc:=B0.free;go_wp2_with fail
 clear Mbr Hd;refine ((dG _ _ q.num.natAbs h _ aK aK HHp.out Kqn.out).mono (by rw [Ec.out];exact fun _ _ h=>h)).mono ?_;rintro e v5 ⟨v,vr,rfl,kK,hv,ji⟩;obtain ⟨as9,lMc,ay3,rfl⟩:=hv.slice;have Mc:=zh hv;clear hv;obtain ⟨ap4,av6,aq8,rfl⟩:=ji.slice;have Mcr:=zh ji;clear ji;replace Gd:=zh (aT.later Gd.out kK);replace Mg:=zh (aT.later Mg.out kK);replace Ma:=zh (aT.later Ma.out kK);replace Mb:=zh (aT.later Mb.out kK);replace BR:=aA.later (BR) kK;replace bR:=BR.cell;replace bQ:=BR.free;replace B1:=aA.later (B1) kK;replace cB1:=B1.cell;replace nW:=B1.free;replace B0:=aA.later (B0) kK;replace cB0:=B0.cell;replace jc:=B0.free;go_wp2_with fail
 clear Mcr G;refine ((dG _ _ q.den g _ aK aK HGp.out YP.out).mono (by rw [Ed.out];exact fun _ _ h=>h)).mono ?_;rintro e v6 ⟨v,vr,rfl,hc6,hv,ji⟩;obtain ⟨as8,lMd,ay2,rfl⟩:=hv.slice;have Md:=zh hv;clear hv;obtain ⟨ap3,av5,aq7,rfl⟩:=ji.slice;have Mdr:=zh ji;clear ji;replace Ma:=zh (aT.later Ma.out hc6);replace Mb:=zh (aT.later Mb.out hc6);replace Mc:=zh (aT.later Mc.out hc6);replace BR:=aA.later (BR) hc6;replace bR:=BR.cell;replace bQ:=BR.free;replace B1:=aA.later (B1) hc6;replace cB1:=B1.cell;replace nW:=B1.free;replace B0:=aA.later (B0) hc6;replace cB0:=B0.cell;replace jc:=B0.free;go_wp2_with fail
 clear Mdr Gd;refine aQ [(.pure,0),(.pure,1),(.pure,3),(.pure,4),(.read,5),(.pure,6),(.pure,7),(.read,8),(.pure,9),(.pure,11),(.pure,12),(.ext,2),(.ext,10),(.ext,13),(.pure,14),(.fin,15)] zk zk zR zP ?_;refine zV ?_;refine aN rfl rfl (fun w7 mJ J hJ=>?_);go_simp;replace Ma:=zh (aT.carry Ma.out aK mJ);replace Mb:=zh (aT.carry Mb.out aK mJ);replace Mc:=zh (aT.carry Mc.out aK mJ);replace Md:=zh (aT.carry Md.out aK mJ);replace BR:=aA.later (aA.drew BR) mJ;replace bR:=BR.cell;replace bQ:=BR.free;refine ((iE _ _ a c _ aK aK Ka.out Kc.out).mono (by rw [Es.out];exact fun _ _ h=>h)).mono ?_;rintro e v7 ⟨v,rfl,AX,hv⟩;obtain ⟨as5,lMs,ax9,rfl⟩:=hv.slice;have Ms:=zh hv;clear hv;replace Ma:=zh (aT.later Ma.out AX);replace Mb:=zh (aT.later Mb.out AX);replace Mc:=zh (aT.later Mc.out AX);replace Md:=zh (aT.later Md.out AX)
 replace BR:=aA.later (BR) AX;replace bR:=BR.cell;replace bQ:=BR.free;refine hJ _ _ AX ?_;clear hJ J;refine aN rfl rfl (fun w8 xI J hJ=>?_);go_simp;replace Mb:=zh (aT.later Mb.out xI);replace Md:=zh (aT.later Md.out xI);replace Ms:=zh (aT.later Ms.out xI);replace BR:=aA.later (BR) xI;replace bR:=BR.cell;replace bQ:=BR.free;refine (dM _ s _ _ aK).mono ?_;rintro e v8 ⟨v,rfl,hc8,hv⟩;obtain ⟨as3,lMv,ax7,rfl,Mv⟩:=hv;replace Mv:=zh Mv;replace Mb:=zh (aT.later Mb.out hc8);replace Md:=zh (aT.later Md.out hc8);replace Ms:=zh (aT.later Ms.out hc8);replace BR:=aA.later (BR) hc8;replace bR:=BR.cell;replace bQ:=BR.free;refine hJ _ _ hc8 ?_;clear hJ J;refine aN rfl rfl (fun w9 xZ J hJ=>?_);go_simp;replace Mb:=zh (aT.later Mb.out xZ);replace Md:=zh (aT.later Md.out xZ);replace Mv:=zh (aT.later Mv.out xZ)
 replace BR:=aA.later (BR) xZ;replace bR:=BR.cell;replace bQ:=BR.free;refine ((iE _ _ b d _ aK aK Kb.out Kd.out).mono (by rw [Et.out];exact fun _ _ h=>h)).mono ?_;rintro e v9 ⟨v,rfl,I9,hv⟩;obtain ⟨as4,lMt,ax8,rfl⟩:=hv.slice;have Mt:=zh hv;clear hv;replace Mb:=zh (aT.later Mb.out I9);replace Md:=zh (aT.later Md.out I9);replace Mv:=zh (aT.later Mv.out I9);replace BR:=aA.later (BR) I9;replace bR:=BR.cell;replace bQ:=BR.free;refine hJ _ _ I9 ?_;clear hJ J;refine zV ?_;refine bT [_] rfl (fun w14 PU=>?_);replace BR:=aA.later (BR) PU;replace bR:=BR.cell;replace bQ:=BR.free;go_wp2_with fail
 refine iX rfl rfl aY Tryz.underlying88 rfl zk ?_;exact ⟨_,rfl,aO,fA.mk (iZ s (!(decide (p.num<0) == decide (q.num<0)))).natAbs t aK aK (by rw [HP.out.1]) HP.out.2.symm (by rw [HP.out.1])⟩
theorem uo (w:World) :
  Calls Tryz.prog 37 #[aB #[aj none 0 0,aC false,aj none 0 0],Z I 20] w (fun e w'=>e= ah (aF #[aB #[O ⟨#[]⟩,O ⟨#[]⟩],Z I 20])∧Below w.heap.size w w'):=by
 go_enter Tryz.func37,Tryz.ntmps37
 go_wp2_with fail
 refine bE rfl rfl aY Tryz.underlying38 rfl zk ?_;exact ⟨rfl,aO⟩
theorem vP (v:Value) (q:Rat) (w:World) (h:fA w v q) (k:rW 1000000 q) (ht:iA.Pow w) :
  Calls Tryz.prog 37 #[v,Z I 0] w (fun e w'=>e= ah (Fr.res (wr q))∧Below w.heap.size w w'):=by
 obtain ⟨BM,lH,Ce,Rc,mH,Rj,rfl,H,Hd⟩:=h;replace H:=zh H;replace Hd:=zh Hd;have HT:=zh ht;have K:=zh k;clear ht k;obtain ⟨x,Ex⟩:∃ y:FrI,Hid (wr q=y):=⟨_,zh rfl⟩;rw [Ex.out];obtain ⟨⟨s,t⟩,e⟩:=x;rw [oD];go_enter Tryz.func37,Tryz.ntmps37
 go_wp2_with fail
 refine ((jo _ q _ (fA.of aK aK) K.out (HT.out.later aO)).mono (by rw [Ex.out,oD];exact fun _ _ h=>h)).mono ?_;rintro e v1 ⟨rfl,hc1⟩;have BR:=aA.later (aA.nX _ _ _ _) hc1;have bR:=BR.cell;have bQ:=BR.free;have gT:=BR.lt;go_wp2_with fail
 refine bE rfl rfl aY Tryz.underlying38 rfl zk ?_;exact ⟨rfl,aO⟩
theorem Nb (s t s' t':ByteArray) (w:World) (p q:Rat) (h:rd ⟨s,t⟩=some p) (k:rd ⟨s',t'⟩=some q) :
  Calls Tryz.prog 38 #[aB #[O s,O t],aB #[O s',O t'],.func (.func 39) #[] #[]] w (fun e w'=>∃ v,e= ah (aF #[v,Z I 0])∧Below w.heap.size w w'∧fA w' v (p*q)):=by
 have HR:=zh (fI h);have HS:=zh (fI k);have KP:=zh ((jH (mX h).2).mono (show 67≤1000000 by omega));have KQ:=zh ((jH (mX k).2).mono (show 67≤1000000 by omega));clear h k;obtain ⟨r,Er⟩:∃ y:Rat,Hid (p*q=y):=⟨_,zh rfl⟩;rw [Er.out];go_enter Tryz.func38,Tryz.ntmps38
 go_wp2_with fail
 refine (HR.out _).mono ?_;rintro e v1 ⟨v,rfl,hc1,hv⟩;obtain ⟨IE,WC,Jm,LW,Yx,MW,rfl,Hp,tO⟩:=hv;replace Hp:=zh Hp;replace tO:=zh tO;have BR:=aA.later (aA.at2 _ _ _ _ _) hc1;have bR:=BR.cell;have bQ:=BR.free;have gT:=BR.lt;have B1:=aA.later (aA.alloc (aA.nX _ _ _ _) _) hc1;have cB1:=B1.cell;have nW:=B1.free;have lB1:=B1.lt;go_wp2_with fail
 refine (HS.out _).mono ?_;rintro e v2 ⟨v,rfl,hc2,hv⟩;obtain ⟨xH,Ny,xR,Bf,Rf,Bo,rfl,Hq,qP⟩:=hv;replace Hq:=zh Hq;replace qP:=zh qP;replace Hp:=zh (aT.carry Hp.out aK hc2);replace tO:=zh (aT.carry tO.out aK hc2);replace X1:aA _ (v1.heap.size) _ _:=aA.later aY hc2;(try simp only [List.setIfInBounds_toArray,aI,aJ] at X1);replace Qz:=X1.cell;replace fX1:=X1.free;replace Pp:=X1.lt;replace BR:aA _ (w.heap.size+1+1) _ _:=aA.later aY hc2;(try simp only [List.setIfInBounds_toArray,aI,aJ] at BR);replace bR:=BR.cell;replace bQ:=BR.free;replace gT:=BR.lt;go_wp2_with fail
 refine ((OY _ _ p q _ (fA.of aK aK) (fA.of aK aK) KP.out KQ.out).mono (by rw [Er.out];exact fun _ _ h=>h)).mono ?_;rintro e v3 ⟨v,rfl,hc3,hv⟩;obtain ⟨OG,ZV,Qw,Wh,mHr,Xz,rfl,Hr,Jv⟩:=hv;replace Hr:=zh Hr;replace Jv:=zh Jv;replace BR:aA _ (w.heap.size+1+1) _ _:=aA.later aY hc3;(try simp only [List.setIfInBounds_toArray,aI,aJ] at BR);replace bR:=BR.cell;replace bQ:=BR.free;replace gT:=BR.lt;go_wp2_with fail
 refine bE rfl rfl aY Tryz.underlying88 rfl zk ?_;exact ⟨_,rfl,aO,fA.of aK aK⟩
theorem Bq (s t s' t':ByteArray) (w:World) (h:rd ⟨s,t⟩=none∨rd ⟨s',t'⟩=none) :
  Calls Tryz.prog 38 #[aB #[O s,O t],aB #[O s',O t'],.func (.func 39) #[] #[]] w (fun e w'=>e= ah (aF #[aB #[aj none 0 0,aC false,aj none 0 0],Z I 20])∧Below w.heap.size w w'):=by
 cases h1:rd ⟨s,t⟩ with
 | none =>
  have HR:=zh (gB h1);cases k:rd ⟨s',t'⟩ with
  | none =>
   have HS:=zh (gB k);clear h k h1;go_enter Tryz.func38,Tryz.ntmps38
   go_wp2_with fail
   refine (HR.out _).mono ?_;rintro e v1 ⟨rfl,hc1⟩;have BR:=aA.later (aA.at2 _ _ _ _ _) hc1;have bR:=BR.cell;have bQ:=BR.free;have gT:=BR.lt;have B1:=aA.later (aA.alloc (aA.nX _ _ _ _) _) hc1;have cB1:=B1.cell;have nW:=B1.free;have lB1:=B1.lt;go_wp2_with fail
   refine (HS.out _).mono ?_;rintro e v2 ⟨rfl,hc2⟩;replace BR:aA _ (w.heap.size+1+1) _ _:=aA.later aY hc2;replace bR:=BR.cell;replace bQ:=BR.free;replace gT:=BR.lt;have q1:w.heap.size+1<v2.heap.size:=by omega
   go_wp2_with fail
   refine bE rfl rfl aY Tryz.underlying88 rfl zk ?_;exact ⟨rfl,aO⟩
  | some q =>
   have HS:=zh (fI k);clear h k h1;go_enter Tryz.func38,Tryz.ntmps38
   go_wp2_with fail
   refine (HR.out _).mono ?_;rintro e v1 ⟨rfl,hc1⟩;have BR:=aA.later (aA.at2 _ _ _ _ _) hc1;have bR:=BR.cell;have bQ:=BR.free;have gT:=BR.lt;have B1:=aA.later (aA.alloc (aA.nX _ _ _ _) _) hc1;have cB1:=B1.cell;have nW:=B1.free;have lB1:=B1.lt;go_wp2_with fail
   refine (HS.out _).mono ?_;rintro e v2 ⟨v,rfl,hc2,hv⟩;obtain ⟨xH,Ny,xR,Bf,Rf,Bo,rfl,Hq,qP⟩:=hv;replace Hq:=zh Hq;replace qP:=zh qP;replace BR:aA _ (w.heap.size+1+1) _ _:=aA.later aY hc2;replace bR:=BR.cell;replace bQ:=BR.free;replace gT:=BR.lt;have q1:w.heap.size+1<v2.heap.size:=by omega
   go_wp2_with fail
   refine bE rfl rfl aY Tryz.underlying88 rfl zk ?_;exact ⟨rfl,aO⟩
 | some p =>
  have HR:=zh (fI h1);cases k:rd ⟨s',t'⟩ with
  | none =>
   have HS:=zh (gB k);clear h k h1;go_enter Tryz.func38,Tryz.ntmps38
   go_wp2_with fail
   refine (HR.out _).mono ?_;rintro e v1 ⟨v,rfl,hc1,hv⟩;obtain ⟨IE,WC,Jm,LW,Yx,MW,rfl,Hp,tO⟩:=hv;replace Hp:=zh Hp;replace tO:=zh tO;have BR:=aA.later (aA.at2 _ _ _ _ _) hc1;have bR:=BR.cell;have bQ:=BR.free;have gT:=BR.lt;have B1:=aA.later (aA.alloc (aA.nX _ _ _ _) _) hc1;have cB1:=B1.cell;have nW:=B1.free;have lB1:=B1.lt;go_wp2_with fail
   refine (HS.out _).mono ?_;rintro e v2 ⟨rfl,hc2⟩;replace BR:aA _ (w.heap.size+1+1) _ _:=aA.later aY hc2;replace bR:=BR.cell;replace bQ:=BR.free;replace gT:=BR.lt;have q1:w.heap.size+1<v2.heap.size:=by omega
   go_wp2_with fail
   refine bE rfl rfl aY Tryz.underlying88 rfl zk ?_;exact ⟨rfl,aO⟩
  | some q=>rw [h1,k] at h;simp at h
theorem wu (a b:Fr) (w:World) (ht:iA.Pow w) :
  Calls Tryz.prog 14 #[a.v,b.v] w (fun e w'=>e= ah (Fr.res (vT a b))∧Below w.heap.size w w'):=by
 obtain ⟨s,t⟩:=a;obtain ⟨s',t'⟩:=b
 show Calls _ _ #[aB #[O s,O t],aB #[O s',O t']] _ _
 unfold vT;have HT:=zh ht;clear ht
 by_cases hbad:rd ⟨s,t⟩=none∨rd ⟨s',t'⟩=none
 ·have e:∀ f,bin f ⟨s,t⟩ ⟨s',t'⟩=(Fr.no,20):=fun f=>by
   rcases hbad with h|h
   ·exact yw h
   ·exact yu h
  rw [e];have HA:=zh (fun w=>Bq s t s' t' w hbad);clear hbad e;go_enter Tryz.func14,Tryz.ntmps14
  go_wp2_with fail
  refine (HA.out _).mono ?_;rintro e v1 ⟨rfl,hc1⟩;have BR:=aA.later (aA.at2 _ _ _ _ _) hc1;have bR:=BR.cell;have bQ:=BR.free;have gT:=BR.lt;go_wp2_with fail
  refine (uo _).mono ?_;rintro e v2 ⟨rfl,hc2⟩;replace BR:=aA.later (BR) hc2;replace bR:=BR.cell;replace bQ:=BR.free;replace gT:=BR.lt;go_wp2_with fail
  refine bE rfl rfl aY Tryz.underlying38 rfl zk ?_;exact ⟨rfl,aO⟩
 ·obtain ⟨p,hp⟩:∃ p,rd ⟨s,t⟩=some p:=Option.ne_none_iff_exists'.1 (fun e=>hbad (.inl e));obtain ⟨q,hq⟩:∃ q,rd ⟨s',t'⟩=some q:=Option.ne_none_iff_exists'.1 (fun e=>hbad (.inr e));rw [mP hp hq];have KP:=zh (jH (mX hp).2);have KQ:=zh (jH (mX hq).2);have HA:=zh (fun w=>Nb s t s' t' w p q hp hq);have KR:Hid (rW 1000000 (p*q)):=zh (rW.mono (k:=135) ((JQ KP.out KQ.out).mono zo) zo);clear hp hq hbad KP KQ;obtain ⟨r,Er⟩:∃ y:Rat,Hid (p*q=y):=⟨_,zh rfl⟩;simp only [Er.out] at KR HA ⊢;obtain ⟨x,Ex⟩:∃ y:FrI,Hid (wr r=y):=⟨_,zh rfl⟩;rw [Ex.out];obtain ⟨⟨s1,t1⟩,e⟩:=x;rw [oD];go_enter Tryz.func14,Tryz.ntmps14
  go_wp2_with fail
  refine (HA.out _).mono ?_;rintro e v1 ⟨v,rfl,hc1,hv⟩;obtain ⟨OG,ZV,Qw,Wh,mHr,Xz,rfl,Hr,Jv⟩:=hv;replace Hr:=zh Hr;replace Jv:=zh Jv;have BR:=aA.later (aA.at2 _ _ _ _ _) hc1;have bR:=BR.cell;have bQ:=BR.free;have gT:=BR.lt;go_wp2_with fail
  refine ((vP _ r _ (fA.of aK aK) KR.out (HT.out.later aO)).mono (by rw [Ex.out,oD];exact fun _ _ h=>h)).mono ?_;rintro e v2 ⟨rfl,hc2⟩;replace BR:=aA.later (BR) hc2;replace bR:=BR.cell;replace bQ:=BR.free;replace gT:=BR.lt;go_wp2_with fail
  refine bE rfl rfl aY Tryz.underlying38 rfl zk ?_;exact ⟨rfl,aO⟩
end Go.Proofs.dw
