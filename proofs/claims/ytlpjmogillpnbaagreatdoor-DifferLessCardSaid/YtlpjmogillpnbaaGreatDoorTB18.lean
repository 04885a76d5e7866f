/- Lemmas for the proof. No condition. -/
import Derived.Test.YtlpjmogillpnbaaGreatDoorTB17
import Derived.Laws.CopyOwn
set_option linter.unusedVariables false
set_option linter.unusedSimpArgs false
set_option maxRecDepth 100000
set_option maxHeartbeats 16000000
open Go.Ending renaming returned → ah
open Go.IntKind renaming i64 → I
open Go.Value renaming bool → ay, int → Z, pointer → aA, slice → aj, string → O, tuple → aD
open List renaming replicate → bD
open Nat renaming eq_zero_or_pos → aS, le_trans → aB, mod_lt → dV, pow_le_pow_right → bE
namespace Go.Proofs.dD
open Go Go.RowKit Go.SW Go.Num Go.Mem Go.Proofs
def kY (w:World) (q r:Nat) (e:Ending) (w':World):Prop:=∃ vq vr,e= ah (aD #[vq,vr])∧Below w.heap.size w w'∧bC w' vq q∧bC w' vr r
theorem _root_.Go.WL {G:Prop} (h:G:=by
 have HX:=zh hx;have hs:=nO h;rw [Nat.div_eq_of_lt h,Nat.mod_eq_of_lt h];have HC:=zh (ji x y a b w hx hy);rw [hs] at HC;clear hx hs hy h;go_enter Pn,Pm
 go_wp2_with ((first|go_at_call 91|go_at_call 257);refine (HC.out).mono ?_;rintro e w1 ⟨rfl,hb1⟩)
 go_ret2
 exact ⟨_,_,rfl,hb1,bC.zero _,HX.out.later hb1⟩):G:=h
theorem vN (x y:Value) (a b:Nat) (w:World) (hx:bC w x a) (hy:bC w y b) (h:a<b) :
  Calls Tryz.prog 81 #[x,y] w (kY w (a / b) (a%b)):=WL
theorem _root_.Go.WK {G:Prop} (h:G:=by
 have hs:qM a b=0∨qM a b=1:=by
  rcases Nat.lt_or_ge b a with h2|h2
  ·exact .inr (mQ h2)
  ·have:a=b:=by omega
   subst this;exact .inl (oW a)
 have hdb:dF 1000000000 b=[b]:=by rw [jS zo hb0,Nat.mod_eq_of_lt hb1,Nat.div_eq_of_lt hb1,gG]
 obtain ⟨p,c,e1, -, -, e3⟩:=kQ.read hy.yJ;rw [hdb] at e1 e3;simp only [List.length_cons,List.length_nil,Value.slice.injEq] at e1;obtain ⟨rfl, -, rfl⟩:=e1;obtain ⟨b2,off,rfl,hb2,hcell⟩:=e3 0 zi;have hcell2:w.cell? ⟨b2,off,none⟩=some (.int .u32 (b:Int)):=by simpa using hcell
 have HC:=zh (ji _ _ a b w hx hy);have HX:=zh hx;clear hdb hcell e3 hx hy;have hmod:a%b<1000000000:=Nat.lt_trans (Nat.mod_lt _ hb0) hb1
 rcases hs with hs|hs
 all_goals
  rw [hs] at HC;clear hs;go_enter Pn,Pm
  go_wp2_with ((first|go_at_call 91|go_at_call 257);refine (HC.out).mono ?_;rintro e w1 ⟨rfl,Gq⟩;have hc1:w1.cell? ⟨b2,off,none⟩=some (.int .u32 (b:Int)):=(Gq.cell (by exact hb2)).trans hcell2)
  refine (sO _ a b _ (HX.out.later Gq) zo hb0 zo).mono ?_;rintro e w2 ⟨v,rfl,Gp,hv⟩;have HV:=zh hv;clear hv;generalize hm:a%b=m at *;have HM:=zh hm;clear hm;go_wp2_with fail
  refine (kM m _ zo).mono ?_;rintro e w3 ⟨v3,rfl,Yj,hv3⟩;have Y4:=zh hv3;clear hv3;go_wp2_with fail
  go_ret2
  exact ⟨_,_,rfl,Bt (Bt Gq Gp) Yj,HV.out.later Yj,Y4.out⟩):G:=h
theorem tZ (pa pb:Option Addr) (ca cb:Nat) (a b:Nat) (w:World) (hx:bC w (aj pa (sz 1000000000 a) ca) a) (hy:bC w (aj pb 1 cb) b) (hb0:0<b) (hb1:b<1000000000) (h:b≤a) (ha:sz 1000000000 a≤549755813888) :
  Calls Tryz.prog 81 #[aj pa (sz 1000000000 a) ca,aj pb 1 cb] w (kY w (a / b) (a%b)):=WK
theorem _root_.Go.WJ {G:Prop} (h:G:=by
 obtain ⟨i0,hi,hz0,hz1,hz2⟩:=info_parts vK
 have hs:qM a b=0∨qM a b=1:=by
  rcases Nat.lt_or_ge b a with h2|h2
  ·exact .inr (mQ h2)
  ·have:a=b:=by omega
   subst this;exact .inl (oW a)
 have hb0:0<b:=by
  rcases Nat.eq_zero_or_pos b with h0|h0
  ·rw [h0,wF] at hsb;omega
  ·exact h0
 have hkl:k+2≤sz 1000000000 a:=by rw [← hsb];exact gZ zo h
 obtain ⟨ht0,ZC,hs0,hs5,hsv,htv⟩:=CB hsb;obtain ⟨hd1,hd2,hd3,hd4,hd5⟩:=dividend (a:=a) hs0 zo hsb hkl;obtain ⟨p,c,e1, -, -, e3⟩:=kQ.read hy.yJ;have hlb:(dF 1000000000 b).length=k+2:=hsb;rw [hlb] at e1 e3;simp only [Value.slice.injEq] at e1;obtain ⟨rfl, -, rfl⟩:=e1;obtain ⟨b2,off,rfl,hb2,hcell⟩:=e3 (k+1) zo;have HC:=zh (ji _ _ a b w hx hy);have HX:=zh hx;have HY:=zh hy;have HSV:=zh hsv;have HTV:=zh htv;have HD4:=zh hd4;have HD5:=zh hd5;have HD2:=zh hd2;have HSB:=zh hsb;clear e3 hx hy hsv htv hd4 hd5 hd2 hsb hlb;have htop:=HSB.out;generalize hT:(dF 1000000000 b).getD (k+1) 0=t at *;clear hT htop;have hdiv:((1000000000 / (t+1):Nat):Int)=1000000000 / ((t:Int)+1):=by rw [Int.natCast_ediv];rfl
 have hsc1:(0:Int)≤1000000000 / ((t:Int)+1):=by rw [← hdiv];exact Int.natCast_nonneg _
 generalize hS:1000000000 / (t+1)=S at *;have hsc2:1000000000 / ((t:Int)+1)≤500000000:=by rw [← hdiv];omega
 have G7:=zh hdiv;have HSq:=zh hS;clear hdiv hS;generalize hus:dF 1000000000 (a*S)++List.replicate (sz 1000000000 a+1 - sz 1000000000 (a*S)) 0=us at *;have HUS:=zh hus;clear hus;generalize hL:sz 1000000000 a=L at *;have HL:=zh hL;clear hL
 rcases hs with hs|hs
 all_goals
  rw [hs] at HC;clear hs;go_enter Pn,Pm
  go_wp2_with ((first|go_at_call 91|go_at_call 257);refine (HC.out).mono ?_;rintro e w1 ⟨rfl,Gq⟩;have hc1:w1.cell? ⟨b2,off+(k+1),none⟩=some (.int .u32 (t:Int)):=(Gq.cell (by exact hb2)).trans hcell)
  rw [← G7.out];refine (jm _ _ b S _ ((HY.out.later Gq).later ((Below.refl _ _).alloc (Nat.le_refl _) _)) (bC.lit hs0 zo) (by rw [HSB.out];omega) (by have:=bY (B:=1000000000) zo 1 S zo;omega)).mono ?_;rintro e w2 ⟨vv,rfl,Gp,hv⟩;have hbw2:Below w.heap.size w w2:=Bt (Bt Gq ((Below.refl _ _).alloc (Nat.le_refl _) _)) Gp;obtain ⟨pv,cv,rfl,hv1,hv2,hv3⟩:=kQ.read hv.yJ;have HVR:=zh hv3;have hvl:(dF 1000000000 (b*S)).length=k+2:=HSV.out;rw [hvl] at hv1 ⊢;have YX:=zh hvl;clear hv hv3 hvl hc1 Gp;go_wp2_with (at_make;refine wpList_make_full _ rfl _ _ Cc rfl w2.heap.size 133 i0 (.int .u32 0) 1 Fb hi hz0 hz1 _ _ _ _ (L+1) rfl rfl zo zo (by rw [hz2];omega) (by unfold maxLen;omega) (Nat.le_refl _) ?_)
  intro w3 hown3 hgrow3;rw [nZ] at hown3;have Yh:=zh (qE hown3).1;have Ud:Below w2.heap.size w2 w3:=(Below.refl _ _).grown hgrow3 (Nat.le_refl _) (fun k h=>by cases h);clear hown3 hgrow3;go_wp2_with fail
  refine (jm _ _ a S _ ((HX.out.later (Bt hbw2 Ud)).later ((Below.refl _ _).alloc (Nat.le_refl _) _)) (bC.lit hs0 zo) (by rw [HL.out];omega) (by have:=bY (B:=1000000000) zo 1 S zo;omega)).mono ?_;rintro e w4 ⟨vt,rfl,Yi,V7⟩;obtain ⟨pt,ct,rfl,ht1,ht2,ht3⟩:=kQ.read V7.yJ;have Uc:Below w3.heap.size w3 w4:=Bt ((Below.refl _ _).alloc (Nat.le_refl _) _) Yi;have Yg:=zh (Yh.out.later Uc);have Yo:=Bt Ud Uc;have HTS:=zh (fun h=>kQ.src ht3 h);clear V7 ht3 Yi Yh
  go_wp2_with (refine wpList_copy_splice (o:=⟨some 54,_,_,_,_,_⟩) rfl (.tmp 49) (.tmp 53) Cc Cc rfl 133 Fb (by rw [hi];simp [hz1]) _ _ _ _ _ _ rfl rfl w2.heap.size 0 (dB (List.replicate (L+1) 0)) 133 Yg.out (dB (dF 1000000000 (a*S))) (by rw [dM];exact (Nat.min_eq_left hd1).symm) (fun h=>⟨rfl,HTS.out h⟩) (by rw [Nat.zero_add,dM,dM,List.length_replicate];exact hd1) (AP _) w2.heap.size w2 Yo (Nat.le_refl _) ?_)
  intro w5 Yf Yn
  have Nw:Hid (aC w5 w2.heap.size (dB us).toArray 133):=by
   have h1:=Yf.out;unfold splice at h1
   have e:List.take 0 (dB (List.replicate (L+1) 0))++(dB (dF 1000000000 (a*S))++List.drop (0+(dB (dF 1000000000 (a*S))).length) (dB (List.replicate (L+1) 0)))=dB us:=by
    rw [← HUS.out];unfold dB sz;simp
   rw [e] at h1;exact h1
  have hg5:w2.heap.size<w5.heap.size:=aC.lt Nw.out;clear Yf Yg HTS;go_wp2_with (at_make;refine wpList_make_full _ rfl _ _ Cc rfl w5.heap.size 133 i0 (.int .u32 0) 1 Fb hi hz0 hz1 _ _ _ _ (L - (k+2)+1) rfl rfl zo zo (by rw [hz2];omega) (by unfold maxLen;omega) (Nat.le_refl _) ?_)
  intro w6 hown6 Nv;rw [nZ] at hown6;have Yk:=zh (qE hown6).1;have Ub:Below w5.heap.size w5 w6:=(Below.refl _ _).grown Nv (Nat.le_refl _) (fun k h=>by cases h);have Yl:=zh (Nw.out.later Ub);have Ym:Below w2.heap.size w2 w6:=Yn.trans (Ub.mono (Nat.le_of_lt hg5));clear hown6 Nv Nw Ub;go_wp2_with fail
  go_loopw [12] (fun jv wr=>∃ (q:Int) (s qs:List Nat), -1≤q∧q≤(L:Int) - ((k:Int)+2)∧jv= .int .i64 q∧Hid (s.length=k+2)∧fD 1000000000 s∧fD 1000000000 qs∧Hid (qs.length+(q+1).toNat=L - (k+2)+1) ∧
    Hid (aC wr w2.heap.size (dB (us.take (q+1).toNat++(s++List.replicate (L+1 - (q+1).toNat - (k+2)) 0))).toArray 133)∧Hid (aC wr w5.heap.size (dB (List.replicate (q+1).toNat 0++qs)).toArray 133) ∧
    Hid (val 1000000000 (us.drop (q+1).toNat)=b*S*val 1000000000 qs+val 1000000000 s)∧Hid (val 1000000000 s<b*S)∧Below w2.heap.size w2 wr) (fun jv _=>(intOf jv+1).toNat)
  case atStart =>
   have e:((L:Int) - ((k:Int)+2)+1).toNat=L - (k+2)+1:=by omega
   refine ⟨(L:Int) - ((k:Int)+2),us.drop (L - (k+2)+1),[],by omega,Int.le_refl _,rfl,zh (by rw [List.length_drop,HD2.out];omega),hd3.drop _,fD.nil,zh (by rw [e];simp),zh ?_,zh ?_,zh (by rw [e];simp [val]),HD5,Ym⟩
   ·rw [e,show L+1 - (L - (k+2)+1) - (k+2)=0 by omega,List.replicate_zero,List.append_nil,List.take_append_drop];exact Yl.out
   ·rw [e,List.append_nil];exact Yk.out
  case round =>
   clear Yl Yk Ym Yn Yo Ud Uc;obtain ⟨q,s,qs,hq1,hq2,rfl,HSL,hds,BX,Zc,RI,Wv,YZ,YW,hbr⟩:=hrel
   by_cases hq:q<0
   ·have hq0:q= -1:=by omega
    subst hq0;have e0:((-1:Int)+1).toNat=0:=by omega
    rw [e0] at RI Wv YZ Zc;simp only [List.take_zero,List.nil_append,List.replicate_zero,List.drop_zero,Nat.add_zero,Nat.sub_zero] at RI Wv YZ Zc;have HE:=zh (Na hs0 (by rw [← HD4.out];exact YZ.out) YW.out);have hbw:Below w.heap.size w wr:=Bt hbw2 hbr;have hDu:=zh (kQ.qm (n:=k+2) (m:=L+1) RI.out HSL.out zo zo);have hDq:=zh (kQ.qm (n:=L - (k+2)+1) (m:=L - (k+2)+1) (post:=[]) (by rw [List.append_nil];exact Wv.out) Zc.out zo zo);have hle:val 1000000000 s / S≤b:=by rw [HE.out.2];exact Nat.le_of_lt (Nat.mod_lt _ hb0)
    have hsz:sz 1000000000 (val 1000000000 s)≤k+2:=bY zo _ _ (by have:=gQ (by omega:0<1000000000) hds;rwa [HSL.out] at this);go_wp2_with fail
    refine (nG _ _ _ hDu.out hds).mono ?_;rintro e w' ⟨v1,rfl,rfl,hv1⟩;go_wp2_with fail
    refine (sO _ _ S _ hv1 zo hs0 zo).mono ?_;rintro e w7 ⟨v2,rfl,og,hv2⟩;have Fp:=zh hv2;clear hv2;go_wp2_with fail
    refine (nG _ _ _ (hDq.out.later og) BX).mono ?_;rintro e w' ⟨v3,rfl,rfl,hv3⟩;have Y4:=zh hv3;clear hv3;go_wp2_with fail
    go_ret2
    exact ⟨v3,v2,rfl,Bt hbw og,by rw [← HE.out.1];exact Y4.out,by rw [← HE.out.2];exact Fp.out⟩
   ·obtain ⟨j,rfl⟩:=Int.eq_ofNat_of_zero_le (by omega:0≤q);have ej:((j:Int)+1).toNat=j+1:=by omega
    rw [ej] at RI Wv YZ Zc;have hjl:j<us.length:=by rw [HD2.out];omega
    go_wp2_with fail
    rw [show j+(k+2)+1 - j=k+3 by omega];have hux:us.getD j 0<1000000000:=hd3.getD zo j;have e1:us.take (j+1)++(s++List.replicate (L+1 - (j+1) - (k+2)) 0)=us.take j++(us.getD j 0::s)++List.replicate (L+1 - (j+1) - (k+2)) 0:=by rw [jF hjl];simp
    rw [e1] at RI;have HW:=zh (Jj hux YW.out);refine (vG w2.heap.size j k (L+1 - j) pv cv (us.take j) (us.getD j 0::s) (List.replicate (L+1 - (j+1) - (k+2)) 0) (dF 1000000000 (b*S)) wr (by rw [List.length_take];omega) (by simp [HSL.out]) YX.out (hds.cons hux) (bN zo _) zo HTV.out (by rw [bH zo];exact HW.out) RI.out (fun i hi=>?_)).mono ?_
    ·obtain ⟨b',off',e1,h1,h2⟩:=HVR.out i (by rw [YX.out];exact hi);exact ⟨b',off',e1,Nat.ne_of_lt h1,Nat.lt_of_lt_of_le h1 hbr.size,(hbr.cell (by exact h1)).trans h2⟩
    ·rintro e wx ⟨rfl,R8,s',hB',XQ,ad1,TP⟩;rw [bH zo] at TP ⊢;have HB':=zh hB';have Y9:=zh TP;have ah8:=zh XQ;have hbx:Below w2.heap.size w2 wx:=zQ hbr R8 hbr.size (Nat.le_refl _);have hBx:aC wx w5.heap.size (dB (List.replicate (j+1) 0++qs)).toArray 133:=(R8.block _ (aC.lt Wv.out) (by simp;omega)).trans Wv.out;have oL:=zh hBx;clear hB' TP XQ hBx;generalize hqh:val 1000000000 (us.getD j 0::s) / (b*S)=qh at *;have HQH:=zh hqh;clear hqh
     have HQ0:wx.cell? ⟨w5.heap.size,j,none⟩=some (.int .u32 0):=by
      rw [oL.out.cell,List.getElem?_toArray,kZ (by simp;omega),qO zo];rfl
     have HQF:wx.frozen? ⟨w5.heap.size,j,none⟩=false:=oL.out.free _;go_wp2_with fail
     have hbs:0<b*S:=Nat.mul_pos hb0 hs0;have ZF:qh<1000000000:=by rw [← HQH.out];exact Nat.div_lt_of_lt_mul HW.out
     have Si:((j:Int) - 1+1).toNat=j:=by omega
     have ZH:((⟨w5.heap.size,j,none⟩:Addr).block)=w5.heap.size:=rfl;refine ⟨⟨(j:Int) - 1,s',qh::qs,by omega,by omega,rfl,ah8,ad1,BX.cons ZF,zh ?_,zh ?_,zh ?_,zh ?_,zh ?_,?_⟩,?_⟩
     ·rw [Si,List.length_cons];have:=Zc.out;omega
     ·have h1:=HB'.out.setOther (a:=⟨w5.heap.size,j,none⟩) (.int .u32 (qh:Int)) (by simp;omega);rw [Si]
      have e2:us.take j++(s'++[0])++List.replicate (L+1 - (j+1) - (k+2)) 0=us.take j++(s'++List.replicate (L+1 - j - (k+2)) 0):=by
       rw [show L+1 - j - (k+2)=(L+1 - (j+1) - (k+2))+1 by omega,List.replicate_succ];simp
      rw [e2] at h1;exact h1
     ·have h1:=oL.out.set j (.int .u32 (qh:Int));rw [List.setIfInBounds_toArray,jR,sP] at h1;rw [Si];exact h1
     ·rw [Si];exact JW hjl YZ.out HQH.out.symm Y9.out
     ·rw [Y9.out];exact Nat.mod_lt _ hbs
     ·exact hbx.setCell (by simp;omega) _
     ·simp only [intOf];omega):G:=h
theorem vM (pa pb:Option Addr) (ca cb:Nat) (a b k:Nat) (w:World) (hx:bC w (aj pa (sz 1000000000 a) ca) a) (hy:bC w (aj pb (k+2) cb) b) (hsb:sz 1000000000 b=k+2) (h:b≤a) (ha:sz 1000000000 a≤549755813888) :
  Calls Tryz.prog 81 #[aj pa (sz 1000000000 a) ca,aj pb (k+2) cb] w (kY w (a / b) (a%b)):=WJ
theorem _root_.Go.WI {G:Prop} (h:G:=by
 rcases Nat.lt_or_ge a b with h|h
 ·exact vN x y a b w hx hy h
 ·obtain ⟨p,c,e1, -, -, -⟩:=kQ.read hx.yJ;obtain ⟨q,d,e2, -, -, -⟩:=kQ.read hy.yJ
  have hp:sz 1000000000 b≠0:=fun h0=>by
   have:=(lF (B:=1000000000) zo (n:=b)).mp (List.length_eq_zero_iff.mp h0);omega
  have e3:(dF 1000000000 b).length=sz 1000000000 b:=rfl;rw [e3] at e2;subst e1
  rcases Nat.lt_or_ge (sz 1000000000 b) 2 with h2|h2
  ·have h1:sz 1000000000 b=1:=by omega
   rw [h1] at e2;subst e2;have:=iV (B:=1000000000) zo b;rw [h1] at this;exact tZ p q c d a b w hx hy hb zo h ha
  ·obtain ⟨k,hk⟩:∃ k,sz 1000000000 b=k+2:=⟨sz 1000000000 b - 2,by omega⟩;rw [hk] at e2;subst e2;exact vM p q c d a b k w hx hy hk h ha):G:=h
theorem fO (x y:Value) (a b:Nat) (w:World) (hx:bC w x a) (hy:bC w y b) (hb:0<b) (ha:sz 1000000000 a≤549755813888) :
  Calls Tryz.prog 81 #[x,y] w (kY w (a / b) (a%b)):=WI
end Go.Proofs.dD
namespace Go.Proofs.dD
open Go Go.RowKit Go.SW Go.Num Go.Mem Go.Proofs Go.Proofs.gJ Go.Dec
theorem _root_.Go.WH {G:Prop} (h:G:=by
 have hlen:=jh 9 d zo hd;have H:=zh h;have HT:=zh ht;clear h ht;go_enter W9,WZ
 go_wp2_with (go_at_call 99;refine (IQ d hd _ HT.out).mono ?_;rintro e w1 ⟨rfl,hb1⟩)
 have HL:=zh hlen;generalize hL:(Lib.decDigits d).length=L at *;have HLe:=zh hL;clear hL
 go_loopw [13] (fun jv wr=>∃ i:Nat,jv= .int .i64 (i:Int)∧Hid (i=0∨i+L≤wd)∧Hid (KH B b (Lib.byteCells (l++List.replicate i 48)) wr)∧Below B w wr) (fun jv _=>wd - (intOf jv).toNat)
 case atStart =>
  exact ⟨0,rfl,zh (.inl rfl),zh (by simpa using H.out.later hb1),hb1.mono hB⟩
 case round =>
  obtain ⟨i,rfl,HI,HB,hbr⟩:=hrel
  have hcells:Lib.byteCells (l++List.replicate i 48)++[.int .u8 48]=Lib.byteCells (l++List.replicate (i+1) 48):=by
   rw [List.replicate_succ',← List.append_assoc,Lib.byteCells_append _ [48]];rfl
  by_cases hlt:i+L<wd
  ·go_wp2_with (go_at_call 140;refine (AB B b _ 48 _ HB.out (by rw [Lib.byteCells_length];simp;omega) (Nat.le_trans hB hbr.size)).mono ?_;rintro e w2 ⟨rfl,h2,hb2⟩;rw [hcells] at h2)
   exact ⟨⟨i+1,by simp,zh (.inr zo),zh (.inr h2),hbr.trans hb2⟩,by simp [intOf];omega⟩
  ·have hi:i=wd - L:=by
    rcases HI.out with h|h
    ·omega
    ·omega
   have hsz:(⟨(Lib.decDigits d).toArray⟩:ByteArray).size=L:=HLe.out;go_wp2_with (go_at_call 141;refine (wT B b _ _ _ HB.out (by rw [Lib.byteCells_length,hsz];simp;omega) (Nat.le_trans hB hbr.size)).mono ?_;rintro e w2 ⟨rfl,h2,hb2⟩)
   go_end0
   refine ⟨rfl,.inr ?_,hbr.trans hb2⟩;rw [HLe.out,← hi,← List.append_assoc,Lib.byteCells_append];exact h2):G:=h
theorem FN (B b d wd:Nat) (l:List UInt8) (w:World) (h:KH B b (Lib.byteCells l) w) (hB:B≤w.heap.size) (hw:wd≤9) (hd:d<1000000000) (hl:l.length≤140737488355000) (ht:Pow w) :
  Calls Tryz.prog 139 #[Z .u32 d,Z I wd,aA (some ⟨b,0,none⟩)] w fun e w'=>e= ah (aD #[])∧KH B b (Lib.byteCells (l++(bD (wd - (Lib.decDigits d).length) 48++Lib.decDigits d))) w'∧Below B w w':=WH
def yS (w:World) (n:Nat) (e:Ending) (w':World):Prop:=e= ah (O ⟨(Lib.decDigits n).toArray⟩)∧Below w.heap.size w w'
theorem _root_.Go.WG {G:Prop} (h:G:=by
 have hd:=bN (B:=1000000000) zo a;have htop:=lg (B:=1000000000) zo a;have hva:=bH (B:=1000000000) zo a;unfold sz at ha
 rcases Nat.eq_zero_or_pos a with h0|h0
 ·subst h0;have H:=zh hx;clear hx;go_enter SQ,SN
  go_wp2_with ((first|go_at_call 52|go_at_call 245);refine (gL _ _ _ H.out).mono ?_;rintro e w1 ⟨rfl,rfl⟩)
  go_ret
  exact ⟨by rw [gM zo];rfl,Below.refl _ _⟩
 ·obtain ⟨p,c,rfl,hc1,hc2,hread⟩:=kQ.read hx.yJ;generalize hl:dF 1000000000 a=l at *;have hne:l≠[]:=fun e=>by rw [e] at hva;simp [val] at hva;omega
  obtain ⟨n,hn⟩:∃ n,l.length=n+1:=⟨l.length - 1,by have:=List.length_pos_iff.mpr hne;omega⟩;have H:=zh hx;have HR:=zh hread;have HV:=zh hva;have HN:=zh hn;have HL:=zh hl;have HT:=zh ht;rw [hn] at ha hc1 ⊢;have ha0:decide (a=0)=false:=by simp;omega
  clear hx hread hva hl ht hn;obtain ⟨b,off,rfl,hb,hcell⟩:=HR.out n (by have:=HN.out;omega);have hpos:∀ i,i≤n→0<val 1000000000 (l.drop i):=fun i hi=>iw zo (xk htop i) (fun e=>by have:=congrArg List.length e;rw [List.length_drop,HN.out] at this;simp at this;omega)
  have hdl:∀ i,(Lib.decDigits (val 1000000000 (l.drop i))).length≤9*(n+1)+1:=fun i=>by
   have h1:=qB (hd.drop i);rw [List.length_drop,HN.out] at h1;omega
  have HP:=zh hpos;have Ze:=zh hdl;clear hpos hdl
  have hd0:val 1000000000 (l.drop n)=l.getD n 0:=by
   rw [iW (by have:=HN.out;omega),List.drop_eq_nil_of_le (by have:=HN.out;omega)];simp [val]
  have hdb:=hd.getD zo n;generalize hdn:l.getD n 0=dn at *;have Wu:=zh hdn;have HD0:=zh hd0;clear hdn hd0;have ZH:Below w.heap.size w (w.alloc (.cells #[.pointer none,.slice none 0 0] 188 (0,0))):=(Below.refl _ _).alloc (Nat.le_refl _) _;have hcw:(w.alloc (.cells #[.pointer none,.slice none 0 0] 188 (0,0))).cell? ⟨b,off+n,none⟩=some (.int .u32 (dn:Nat)):=(ZH.cell (by exact hb)).trans hcell;have hb0:KH w.heap.size w.heap.size (Lib.byteCells []) (w.alloc (.cells #[.pointer none,.slice none 0 0] 188 (0,0))):=Lib.fresh_isBuilder _ _ w;have HB0:=zh hb0;clear hb0;go_enter SQ,SN
  go_wp2_with ((first|go_at_call 52|go_at_call 245);refine (gL _ a _ (by rw [← HN.out];exact H.out)).mono ?_;rintro e w1 ⟨rfl,rfl⟩;rw [ha0])
  refine (FN _ _ dn 0 [] _ HB0.out zi zo hdb zi (HT.out.later ZH)).mono ?_;rintro e w2 ⟨rfl,h2,hb2⟩;rw [Nat.zero_sub,List.replicate_zero,List.nil_append,List.nil_append,← HD0.out] at h2;have H2:=zh h2;have hbw2:Below w.heap.size w w2:=ZH.trans hb2;clear h2;go_wp2_with fail
  go_loopw [6] (fun jv wr=>∃ i:Nat,jv= .int .i64 ((i:Int) - 1)∧i≤n∧Hid (KH w.heap.size w.heap.size (Lib.byteCells (Lib.decDigits (val 1000000000 (l.drop i)))) wr)∧Below w.heap.size w wr) (fun jv _=>(intOf jv+1).toNat)
  case atStart=>exact ⟨n,rfl,Nat.le_refl _,H2,hbw2⟩
  case round =>
   obtain ⟨i,rfl,hi,HB,hbr⟩:=hrel
   rcases Nat.eq_zero_or_pos i with h1|h1
   ·subst h1;rw [List.drop_zero,HV.out] at HB;go_wp2_with fail
    refine (Tryz.Builder_String_any _ _ _ _ HB.out hbr.size).mono ?_;rintro e w3 ⟨rfl,hb3⟩;go_wp2_with fail
    go_ret
    exact ⟨rfl,hbr.trans hb3⟩
   ·obtain ⟨j,rfl⟩:∃ j,i=j+1:=⟨i - 1,by omega⟩;have hj:j<l.length:=by have:=HN.out;omega
    obtain ⟨b',off',e1,hb',hcell'⟩:=HR.out j hj;simp only [Option.some.injEq,Addr.mk.injEq,and_true] at e1;obtain ⟨rfl,rfl⟩:=e1;have hcr:=(hbr.cell (p:=⟨b,off+j,none⟩) (by exact hb)).trans hcell';have hjb:=hd.getD zo j;have HG:=zh (Ap hj hd (HP.out (j+1) hi));generalize hdj:l.getD j 0=dj at *;have HDJ:=zh hdj;clear hdj hcell';go_wp2_with fail
    refine (FN _ _ dj 9 _ _ HB.out hbr.size zo hjb (by have:=Ze.out (j+1);omega) (HT.out.later hbr)).mono ?_;rintro e w3 ⟨rfl,h3,hb3⟩;rw [← HG.out] at h3;have H3:=zh h3;clear h3;go_wp2_with fail
    refine ⟨⟨j,rfl,by omega,H3,hbr.trans hb3⟩,?_⟩;simp only [intOf];omega):G:=h
theorem om (x:Value) (a:Nat) (w:World) (hx:bC w x a) (ha:sz 1000000000 a≤1099511627776) (ht:Pow w) :
  Calls Tryz.prog 94 #[x] w (yS w a):=WG
theorem _root_.Go.WE {G:Prop} (h:G:=by
 have hd:=bN (B:=1000000000) zo a;have htop:=lg (B:=1000000000) zo a;have hva:=bH (B:=1000000000) zo a;unfold sz at ha
 rcases Nat.eq_zero_or_pos a with h0|h0
 ·subst h0;have H:=zh hx;clear hx;rw [gM zo];go_enter SL,SK
  go_wp2_with ((first|go_at_call 52|go_at_call 245);refine (gL _ _ _ H.out).mono ?_;rintro e w1 ⟨rfl,rfl⟩)
  go_ret
  exact ⟨rfl,Below.refl _ _⟩
 ·obtain ⟨p,c,rfl,hc1,hc2,hread⟩:=kQ.read hx.yJ;generalize hl:dF 1000000000 a=l at *;have hne:l≠[]:=fun e=>by rw [e] at hva;simp [val] at hva;omega
  obtain ⟨n,hn⟩:∃ n,l.length=n+1:=⟨l.length - 1,by have:=List.length_pos_iff.mpr hne;omega⟩;have hlt:=DR hn hd htop;have hdb:=hd.getD zo n;have hl9:=jh 9 _ zo hdb;rw [hva] at hlt;rw [hlt];obtain ⟨b,off,rfl,hb,hcell⟩:=hread n zo;have H:=zh hx;have HN:=zh hn;have HT:=zh ht;rw [hn] at ha hc1 ⊢;have ha0:decide (a=0)=false:=by simp;omega
  generalize hdn:l.getD n 0=dn at *;clear hx hread hva hl ht hn hlt hdn;generalize hL:(Lib.decDigits dn).length=L at *;have HL:Hid ((⟨(Lib.decDigits dn).toArray⟩:ByteArray).size=L):=zh hL;clear hL;go_enter SL,SK
  go_wp2_with (first
   | ((first|go_at_call 52|go_at_call 245);refine (gL _ a _ (by rw [← HN.out];exact H.out)).mono ?_;rintro e w1 ⟨rfl,rfl⟩;rw [ha0])
   | (go_at_call 99;refine (IQ dn hdb _ HT.out).mono ?_;rintro e w1 ⟨rfl,hb1⟩;have hq:=HL.out))
  go_ret
  refine ⟨?_,hb1⟩;have e:(((9*n+L:Nat)):Int)=(n:Int)*9+(L:Int):=by omega
  rw [e];rfl):G:=h
theorem j3 (x:Value) (a:Nat) (w:World) (hx:bC w x a) (ha:sz 1000000000 a≤1099511627776) (ht:Pow w) :
  Calls Tryz.prog 92 #[x] w (fun e w'=>e= ah (Z I ((Lib.decDigits a).length:Nat))∧Below w.heap.size w w'):=WE
end Go.Proofs.dD
namespace Go.Proofs.dD
open Go Go.RowKit Go.SW Go.Num Go.Mem Go.Proofs Go.Dec
theorem R4:(Tryz.prog.info? 133).map (fun i=>(i.zero,i.size,i.bytes))=some (some (.int .u32 0),1,4):=by kernel_rfl
theorem mF (s:ByteArray) (hs:s.size≤1099511627776) (hd:nE s.data.toList) (w:World) :
  Calls Tryz.prog 136 #[O s] w (fun e w'=>∃ v,e= ah v∧Below w.heap.size w w'∧bC w' v (num s.data.toList)):=zs3
end Go.Proofs.dD
namespace Go.Proofs.dD
open Go Go.RowKit Go.SW Go.Num Go.Mem Go.Proofs
theorem _root_.Go.WC {G:Prop} (h:G:=by
 obtain ⟨p,c,rfl, -, -, h1⟩:=kQ.read h.yJ;obtain ⟨p',c',e, -, -, h2⟩:=kQ.read k.yJ;simp only [Value.slice.injEq] at e;obtain ⟨rfl,hl,rfl⟩:=e
 have:dF 1000000000 m=dF 1000000000 n:=by
  refine List.ext_getElem hl fun i hi hi2=>?_;obtain ⟨b,o,e, -, hc⟩:=h1 i hi;obtain ⟨b',o',e', -, hc'⟩:=h2 i hi2;rw [e] at e';simp only [Option.some.injEq,Addr.mk.injEq,and_true] at e';obtain ⟨rfl,rfl⟩:=e';rw [hc] at hc';simp only [Option.some.injEq,Value.int.injEq,true_and] at hc';rw [List.getD_eq_getElem?_getD,List.getD_eq_getElem?_getD,List.getElem?_eq_getElem hi,List.getElem?_eq_getElem hi2] at hc'
  simpa using Int.ofNat_inj.mp hc'
 rw [← bH (B:=1000000000) zo m,this,bH zo]):G:=h
theorem bC.inj {w:World} {v:Value} {m n:Nat} (h:bC w v m) (k:bC w v n):m=n:=WC
open Classical in
noncomputable def yc (w:World) (v:Value):Nat:=if h:∃ n,bC w v n then h.choose else 0
theorem qp {w:World} {v:Value} {n:Nat} (h:bC w v n):yc w v=n:=by
 unfold yc;rw [dif_pos ⟨n,h⟩];exact bC.inj (Exists.choose_spec (⟨n,h⟩:∃ n,bC w v n)) h
theorem rZ (x y:Value) (a b:Nat) (w:World) (hx:bC w x a) (hy:bC w y b) (ha:sz 1000000000 a≤549755813888) (hb:sz 1000000000 b≤549755813888) :
  Calls Tryz.prog 80 #[x,y] w (fun e w'=>∃ v,e= ah v∧Below w.heap.size w w'∧bC w' v (Nat.gcd a b)):=by
 generalize hG:Nat.gcd a b=G;have HG:=zh hG;have HX:=zh hx;have HY:=zh hy;clear hx hy hG;go_enter Tryz.func80,Tryz.ntmps80
 go_wp2_with fail
 go_loopw [0,1] (fun vx vy wr=>∃ a b:Nat,Hid (bC wr vx a)∧Hid (bC wr vy b)∧Hid (Nat.gcd a b=G)∧Hid (sz 1000000000 a≤549755813888)∧Hid (sz 1000000000 b≤549755813888)∧Below w.heap.size w wr) (fun _ vy wr=>yc wr vy)
 case atStart=>exact ⟨a,b,HX,HY,HG,zh ha,zh hb,Below.refl _ _⟩
 case round =>
  obtain ⟨a,b,HX,HY,HG,HA,HB,hbr⟩:=hrel;obtain ⟨p,c,rfl,hc1,hc2,hread⟩:=kQ.read HX.out.yJ;obtain ⟨p',c',rfl,hc1',hc2',TQ⟩:=kQ.read HY.out.yJ;clear hread TQ
  have Zd:=zh (show ((dF 1000000000 a).length:Int)≤2→a≤18446744073709551615 from fun h=>by
   have h1:=iV (B:=1000000000) zo a;have h2:(1000000000:Nat)^sz 1000000000 a≤1000000000^2:=bE zo (by unfold sz;omega);omega)
  have HLB:=zh (show ((dF 1000000000 b).length:Int)≤2→b≤18446744073709551615 from fun h=>by
   have h1:=iV (B:=1000000000) zo b;have h2:(1000000000:Nat)^sz 1000000000 b≤1000000000^2:=bE zo (by unfold sz;omega);omega)
  rcases aS b with h0|h0
  ·subst h0;rw [Nat.gcd_zero_right] at HG;go_wp2_with (go_at_call 52;refine (gL _ 0 _ HY.out).mono ?_;rintro e w1 ⟨rfl,rfl⟩)
   go_ret
   exact ⟨_,rfl,hbr,by rw [← HG.out];exact HX.out⟩
  ·have hb0:decide (b=0)=false:=by simp;omega
   go_wp2_with (go_at_call 52;refine (gL _ b _ HY.out).mono ?_;rintro e w1 ⟨rfl,rfl⟩;rw [hb0])
   ·refine (Cw _ a _ HX.out (Zd.out (by assumption))).mono ?_;rintro e w' ⟨rfl,rfl⟩;go_wp2_with fail
    refine (Cw _ b _ HY.out (HLB.out (by assumption))).mono ?_;rintro e w' ⟨rfl,rfl⟩;have hla:=Zd.out (by assumption);have hlb:=HLB.out (by assumption);go_wp2_with fail
    go_loopw [5,6] (fun v5 v6 wi=>∃ c d:Nat,v5= Z .u64 (c:Int)∧v6= Z .u64 (d:Int)∧c≤18446744073709551615∧d≤18446744073709551615∧Hid (Nat.gcd c d=G)∧Below w.heap.size w wi) (fun _ v6 _=>(intOf v6).toNat)
    case atStart=>exact ⟨a,b,rfl,rfl,hla,hlb,HG,hbr⟩
    case round =>
     obtain ⟨c,d,rfl,rfl,hc,hd,HG2,hbi⟩:=hrel
     rcases aS d with h1|h1
     ·subst h1;rw [Nat.gcd_zero_right] at HG2;go_wp2_with fail
      refine (kM c _ hc).mono ?_;rintro e w3 ⟨v3,rfl,hb3,hv3⟩;have Y4:=zh hv3;clear hv3;go_wp2_with fail
      go_ret
      exact ⟨_,rfl,Bt hbi hb3,by rw [← HG2.out];exact Y4.out⟩
     ·have hcd:((c%d:Nat):Int)=(c:Int)%(d:Int):=Int.natCast_emod _ _;have hlt:c%d<d:=dV _ h1;go_wp2_with fail
      go_quiet (fail)
      go_wp2_with fail
      refine ⟨⟨d,c%d,rfl,by rw [hcd],hd,by omega,zh ?_,below_drewN hbi _⟩,?_⟩
      ·rw [← HG2.out,Nat.gcd_comm d,← Nat.gcd_rec,Nat.gcd_comm]
      ·rw [← hcd];simp only [intOf];omega
   all_goals
    refine (fO _ _ a b _ HX.out HY.out h0 HA.out).mono ?_;rintro e w2 ⟨vq,vr,rfl,hb2,hq,hr⟩;have HR:=zh hr;clear hq hr;go_wp2_with fail
    refine ⟨⟨b,a%b,zh (HY.out.later hb2),HR,zh ?_,HB,zh (aB (gZ zo (Nat.mod_le _ _)) HA.out),Bt hbr hb2⟩,?_⟩
    ·rw [← HG.out,Nat.gcd_comm b,← Nat.gcd_rec,Nat.gcd_comm]
    ·rw [qp HR.out,qp HY.out];exact dV _ h0
end Go.Proofs.dD
namespace Go.Proofs.dD
open Go Go.RowKit Go.SW Go.Num Go.Mem Go.Proofs Go.Dec
theorem _root_.Go.WB {G:Prop} (h:G:=by
 obtain ⟨CZ,lH,Ep,rfl⟩:=h.slice;have H:=zh h;clear h;cases b
 all_goals
  go_enter WY,WX
  go_wp2_with ((first|go_at_call 52|go_at_call 245);refine (gL _ n _ aR).mono ?_;rintro e w1 ⟨rfl,rfl⟩)
  refine iT rfl rfl bf Lh rfl zk ?_;refine ⟨_,rfl,aN,dN.mk aR (iJ n _).symm ?_⟩;rw [← Ii];rfl):G:=h
theorem dU (m:Value) (n:Nat) (b:Bool) (w:World) (h:bC w m n) :
  Calls Tryz.prog 50 #[m,ay b] w (fun e w'=>∃ v,e= ah v∧Below w.heap.size w w'∧dN w' v (iM n b)):=WB
theorem jw (z:Int) (hz:(Lib.decDigits z.natAbs).length≤600) (w:World) :
  Calls Tryz.prog 90 #[dA z] w (fun e w'=>∃ v,e= ah v∧Below w.heap.size w w'∧dN w' v z):=by
 have HC:=zh (whole.mo ⟨(Lib.itoa z).toArray⟩);have e1:(⟨(Lib.itoa z).toArray⟩:ByteArray).data.toList=Lib.itoa z:=rfl;rw [e1,DU] at HC;have HG:=zh (fun w=>mF ⟨(Lib.decDigits z.natAbs).toArray⟩ (aB hz zo) (jT _) w);have e2:(⟨(Lib.decDigits z.natAbs).toArray⟩:ByteArray).data.toList=Lib.decDigits z.natAbs:=rfl;rw [e2,kI] at HG;clear hz;unfold dA;go_enter Tryz.func90,Tryz.ntmps90
 go_wp2_with (first
  | (go_at_call 135;refine (HC.out _).mono ?_;rintro e w1 ⟨rfl,rfl⟩)
  | (go_at_call 136;refine (HG.out _).mono ?_;rintro e w2 ⟨v,rfl,hb2,hv⟩;obtain ⟨ab0,lHV,af6,rfl⟩:=hv.slice;have HV:=zh hv;clear hv;have BR:=aC.later (aC.new _ _ _) hb2;have bT:=BR.cell;have bS:=BR.free))
 refine iT rfl rfl bf Tryz.underlying71 rfl zk ?_;exact ⟨_,rfl,aN,dN.dW aR⟩
theorem vH (v:Value) (z:Int) (w:World) (h:dN w v z) :
  Calls Tryz.prog 133 #[v] w (fun e w'=>∃ v,e= ah v∧Below w.heap.size w w'∧dN w' v (-z)):=by
 obtain ⟨CZ,lH,Ep,rfl,H⟩:=h;replace H:=zh H;go_enter Tryz.func133,Tryz.ntmps133
 go_wp2_with (go_at_call 50;refine (dU _ _ _ _ aR).mono ?_;rintro e w1 ⟨v,rfl,hb1,hv⟩;obtain ⟨ap5,lH1,au4,rfl,H1⟩:=hv;replace H1:=zh H1;have BR:=aC.later (aC.nS _ _ _ _) hb1;have bT:=BR.cell;have bS:=BR.free)
 refine iT rfl rfl bf Tryz.underlying71 rfl zk ?_;exact ⟨_,rfl,aN,(dN.dW aR).cast (Ih z)⟩
theorem nU (v u:Value) (z:Int) (n:Nat) (w:World) (h:dN w v z) (hu:bC w u n) (hz:sz 1000000000 z.natAbs≤549755813888) (hn:sz 1000000000 n≤549755813888) :
  Calls Tryz.prog 82 #[v,u] w (fun e w'=>∃ v,e= ah v∧Below w.heap.size w w'∧dN w' v (z*n)):=by
 obtain ⟨CZ,lH,Ep,rfl,H⟩:=h;replace H:=zh H;obtain ⟨ao9,lHU,at6,rfl⟩:=hu.slice;have HU:=zh hu;clear hu;have HN:=zh hn;have HZ:=zh hz;clear hn hz;go_enter Tryz.func82,Tryz.ntmps82
 go_wp2_with fail
 refine aT [(.pure,0),(.read,1),(.pure,2),(.pure,4),(.read,5),(.ext,3),(.ext,6),(.fin,7)] zk zk zR zP ?_;refine zV ?_;refine aW rfl rfl (fun w1 hb1 J hJ=>?_);go_simp;have BR:=aC.later (aC.drew (aC.nS _ _ _ _)) hb1;have bT:=BR.cell;have bS:=BR.free;refine (jm _ _ _ _ _ aR aR (aB HZ.out zo) (aB HN.out zo)).mono ?_;rintro e w2 ⟨v,rfl,hb2,hv⟩;obtain ⟨ab0,lHV,af6,rfl⟩:=hv.slice;have HV:=zh hv;clear hv;replace BR:=aC.later (BR) hb2;replace bT:=BR.cell;replace bS:=BR.free;refine hJ _ _ hb2 ?_;clear hJ J;refine aW rfl rfl (fun w3 hb3 J hJ=>?_);go_simp;replace BR:=aC.later (BR) hb3;replace bT:=BR.cell;replace bS:=BR.free;refine (dU _ (z.natAbs*n) _ _ aR).mono ?_;rintro e w4 ⟨v,rfl,hb4,hv⟩;obtain ⟨ap3,lH4,au2,rfl,H4⟩:=hv;replace H4:=zh H4;replace BR:=aC.later (BR) hb4;replace bT:=BR.cell;replace bS:=BR.free
 refine hJ _ _ hb4 ?_;clear hJ J;refine dG [_] rfl (fun w5 hb5=>?_);replace BR:=aC.later (BR) hb5;replace bT:=BR.cell;replace bS:=BR.free;go_wp2_with fail
 refine iT rfl rfl bf Tryz.underlying71 rfl zk ?_;exact ⟨_,rfl,aN,(dN.dW aR).cast (PK z n)⟩
end Go.Proofs.dD
