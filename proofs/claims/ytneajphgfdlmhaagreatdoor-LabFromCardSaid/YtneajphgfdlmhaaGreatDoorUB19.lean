/- Lemmas for the proof. No condition. -/
import Derived.Test.YtneajphgfdlmhaaGreatDoorUB18
import Derived.Laws.CopyOwn
set_option linter.unusedVariables false
set_option linter.unusedSimpArgs false
set_option maxRecDepth 100000
set_option maxHeartbeats 16000000
open Go.Ending renaming returned → ah
open Go.IntKind renaming i64 → I
open Go.Value renaming bool → ak, int → Z, pointer → aA, slice → aj, string → O, tuple → aD
open List renaming replicate → bW
open Nat renaming eq_zero_or_pos → aX, le_trans → ay, mod_lt → fI, pow_le_pow_right → bH
namespace Go.Proofs.fC
open Go Go.RowKit Go.SW Go.Num Go.Mem Go.Proofs
def oF (w:World) (q r:Nat) (e:Ending) (w':World):Prop:=∃ vq vr,e= ah (aD #[vq,vr])∧Below w.heap.size w w'∧bZ w' vq q∧bZ w' vr r
theorem _root_.Go.ar6 {G:Prop} (h:G:=by
 have HX:=zh hx;have hs:=qZ h;rw [Nat.div_eq_of_lt h,Nat.mod_eq_of_lt h];have HC:=zh (ku x y a b w hx hy);rw [hs] at HC;clear hx hs hy h;go_enter Ye,Yd
 go_wp2_with ((first|go_at_call 223|go_at_call 317);refine (HC.out).mono ?_;rintro e w1 ⟨rfl,hb1⟩)
 go_ret2
 exact ⟨_,_,rfl,hb1,bZ.zero _,HX.out.later hb1⟩):G:=h
theorem AV (x y:Value) (a b:Nat) (w:World) (hx:bZ w x a) (hy:bZ w y b) (h:a<b) :
  Calls Tryz.prog 143 #[x,y] w (oF w (a / b) (a%b)):=ar6
theorem _root_.Go.ar5 {G:Prop} (h:G:=by
 have hs:xu a b=0∨xu a b=1:=by
  rcases Nat.lt_or_ge b a with h2|h2
  ·exact .inr (qo h2)
  ·have:a=b:=by omega
   subst this;exact .inl (sW a)
 have hdb:d9 1000000000 b=[b]:=by rw [mM zo hb0,Nat.mod_eq_of_lt hb1,Nat.div_eq_of_lt hb1,iN]
 obtain ⟨p,c,e1, -, -, e3⟩:=nY.read hy.DU;rw [hdb] at e1 e3;simp only [List.length_cons,List.length_nil,Value.slice.injEq] at e1;obtain ⟨rfl, -, rfl⟩:=e1;obtain ⟨b2,off,rfl,hb2,hcell⟩:=e3 0 zi;have hcell2:w.cell? ⟨b2,off,none⟩=some (.int .u32 (b:Int)):=by simpa using hcell
 have HC:=zh (ku _ _ a b w hx hy);have HX:=zh hx;clear hdb hcell e3 hx hy;have hmod:a%b<1000000000:=Nat.lt_trans (Nat.mod_lt _ hb0) hb1
 rcases hs with hs|hs
 all_goals
  rw [hs] at HC;clear hs;go_enter Ye,Yd
  go_wp2_with ((first|go_at_call 223|go_at_call 317);refine (HC.out).mono ?_;rintro e w1 ⟨rfl,Ns⟩;have hc1:w1.cell? ⟨b2,off,none⟩=some (.int .u32 (b:Int)):=(Ns.cell (by exact hb2)).trans hcell2)
  refine (yh _ a b _ (HX.out.later Ns) zo hb0 zo).mono ?_;rintro e w2 ⟨v,rfl,Nr,hv⟩;have HV:=zh hv;clear hv;generalize hm:a%b=m at *;have HM:=zh hm;clear hm;go_wp2_with fail
  refine (nT m _ zo).mono ?_;rintro e w3 ⟨v3,rfl,az3,hv3⟩;have HV3:=zh hv3;clear hv3;go_wp2_with fail
  go_ret2
  exact ⟨_,_,rfl,Bt (Bt Ns Nr) az3,HV.out.later az3,HV3.out⟩):G:=h
theorem yT (pa pb:Option Addr) (ca cb:Nat) (a b:Nat) (w:World) (hx:bZ w (aj pa (sz 1000000000 a) ca) a) (hy:bZ w (aj pb 1 cb) b) (hb0:0<b) (hb1:b<1000000000) (h:b≤a) (ha:sz 1000000000 a≤549755813888) :
  Calls Tryz.prog 143 #[aj pa (sz 1000000000 a) ca,aj pb 1 cb] w (oF w (a / b) (a%b)):=ar5
theorem _root_.Go.ar4 {G:Prop} (h:G:=by
 obtain ⟨i0,hi,hz0,hz1,hz2⟩:=info_parts AJ
 have hs:xu a b=0∨xu a b=1:=by
  rcases Nat.lt_or_ge b a with h2|h2
  ·exact .inr (qo h2)
  ·have:a=b:=by omega
   subst this;exact .inl (sW a)
 have hb0:0<b:=by
  rcases Nat.eq_zero_or_pos b with h0|h0
  ·rw [h0,BA] at hsb;omega
  ·exact h0
 have hkl:k+2≤sz 1000000000 a:=by rw [← hsb];exact fB zo h
 obtain ⟨ht0,htB,hs0,hs5,hsv,htv⟩:=JB hsb;obtain ⟨hd1,hd2,hd3,hd4,hd5⟩:=dividend (a:=a) hs0 zo hsb hkl;obtain ⟨p,c,e1, -, -, e3⟩:=nY.read hy.DU;have hlb:(d9 1000000000 b).length=k+2:=hsb;rw [hlb] at e1 e3;simp only [Value.slice.injEq] at e1;obtain ⟨rfl, -, rfl⟩:=e1;obtain ⟨b2,off,rfl,hb2,hcell⟩:=e3 (k+1) zo;have HC:=zh (ku _ _ a b w hx hy);have HX:=zh hx;have HY:=zh hy;have HSV:=zh hsv;have HTV:=zh htv;have HD4:=zh hd4;have HD5:=zh hd5;have HD2:=zh hd2;have HSB:=zh hsb;clear e3 hx hy hsv htv hd4 hd5 hd2 hsb hlb;have htop:=HSB.out;generalize hT:(d9 1000000000 b).getD (k+1) 0=t at *;clear hT htop;have hdiv:((1000000000 / (t+1):Nat):Int)=1000000000 / ((t:Int)+1):=by rw [Int.natCast_ediv];rfl
 have hsc1:(0:Int)≤1000000000 / ((t:Int)+1):=by rw [← hdiv];exact Int.natCast_nonneg _
 generalize hS:1000000000 / (t+1)=S at *;have hsc2:1000000000 / ((t:Int)+1)≤500000000:=by rw [← hdiv];omega
 have OD:=zh hdiv;have HSq:=zh hS;clear hdiv hS;generalize hus:d9 1000000000 (a*S)++List.replicate (sz 1000000000 a+1 - sz 1000000000 (a*S)) 0=us at *;have HUS:=zh hus;clear hus;generalize hL:sz 1000000000 a=L at *;have HL:=zh hL;clear hL
 rcases hs with hs|hs
 all_goals
  rw [hs] at HC;clear hs;go_enter Ye,Yd
  go_wp2_with ((first|go_at_call 223|go_at_call 317);refine (HC.out).mono ?_;rintro e w1 ⟨rfl,Ns⟩;have hc1:w1.cell? ⟨b2,off+(k+1),none⟩=some (.int .u32 (t:Int)):=(Ns.cell (by exact hb2)).trans hcell)
  rw [← OD.out];refine (kE _ _ b S _ ((HY.out.later Ns).later ((Below.refl _ _).alloc (Nat.le_refl _) _)) (bZ.lit hs0 zo) (by rw [HSB.out];omega) (by have:=dH (B:=1000000000) zo 1 S zo;omega)).mono ?_;rintro e w2 ⟨vv,rfl,Nr,hv⟩;have hbw2:Below w.heap.size w w2:=Bt (Bt Ns ((Below.refl _ _).alloc (Nat.le_refl _) _)) Nr;obtain ⟨pv,cv,rfl,hv1,hv2,hv3⟩:=nY.read hv.DU;have HVR:=zh hv3;have hvl:(d9 1000000000 (b*S)).length=k+2:=HSV.out;rw [hvl] at hv1 ⊢;have HVL:=zh hvl;clear hv hv3 hvl hc1 Nr;go_wp2_with (at_make;refine wpList_make_full _ rfl _ _ Jk rfl w2.heap.size 61 i0 (.int .u32 0) 1 LA hi hz0 hz1 _ _ _ _ (L+1) rfl rfl zo zo (by rw [hz2];omega) (by unfold maxLen;omega) (Nat.le_refl _) ?_)
  intro w3 hown3 hgrow3;rw [rX] at hown3;have az1:=zh (vG hown3).1;have Dp:Below w2.heap.size w2 w3:=(Below.refl _ _).grown hgrow3 (Nat.le_refl _) (fun k h=>by cases h);clear hown3 hgrow3;go_wp2_with fail
  refine (kE _ _ a S _ ((HX.out.later (Bt hbw2 Dp)).later ((Below.refl _ _).alloc (Nat.le_refl _) _)) (bZ.lit hs0 zo) (by rw [HL.out];omega) (by have:=dH (B:=1000000000) zo 1 S zo;omega)).mono ?_;rintro e w4 ⟨vt,rfl,az2,hvt⟩;obtain ⟨pt,ct,rfl,ht1,ht2,ht3⟩:=nY.read hvt.DU;have ak3:Below w3.heap.size w3 w4:=Bt ((Below.refl _ _).alloc (Nat.le_refl _) _) az2;have az0:=zh (az1.out.later ak3);have az8:=Bt Dp ak3;have HTS:=zh (fun h=>nY.src ht3 h);clear hvt ht3 az2 az1
  go_wp2_with (refine wpList_copy_splice (o:=⟨some 54,_,_,_,_,_⟩) rfl (.tmp 49) (.tmp 53) Jk Jk rfl 61 LA (by rw [hi];simp [hz1]) _ _ _ _ _ _ rfl rfl w2.heap.size 0 (eH (List.replicate (L+1) 0)) 61 az0.out (eH (d9 1000000000 (a*S))) (by rw [fG];exact (Nat.min_eq_left hd1).symm) (fun h=>⟨rfl,HTS.out h⟩) (by rw [Nat.zero_add,fG,fG,List.length_replicate];exact hd1) (He _) w2.heap.size w2 az8 (Nat.le_refl _) ?_)
  intro w5 ay9 az7
  have Wu:Hid (aB w5 w2.heap.size (eH us).toArray 61):=by
   have h1:=ay9.out;unfold splice at h1
   have e:List.take 0 (eH (List.replicate (L+1) 0))++(eH (d9 1000000000 (a*S))++List.drop (0+(eH (d9 1000000000 (a*S))).length) (eH (List.replicate (L+1) 0)))=eH us:=by
    rw [← HUS.out];unfold eH sz;simp
   rw [e] at h1;exact h1
  have hg5:w2.heap.size<w5.heap.size:=aB.lt Wu.out;clear ay9 az0 HTS;go_wp2_with (at_make;refine wpList_make_full _ rfl _ _ Jk rfl w5.heap.size 61 i0 (.int .u32 0) 1 LA hi hz0 hz1 _ _ _ _ (L - (k+2)+1) rfl rfl zo zo (by rw [hz2];omega) (by unfold maxLen;omega) (Nat.le_refl _) ?_)
  intro w6 hown6 Wt;rw [rX] at hown6;have az4:=zh (vG hown6).1;have ak2:Below w5.heap.size w5 w6:=(Below.refl _ _).grown Wt (Nat.le_refl _) (fun k h=>by cases h);have az5:=zh (Wu.out.later ak2);have az6:Below w2.heap.size w2 w6:=az7.trans (ak2.mono (Nat.le_of_lt hg5));clear hown6 Wt Wu ak2;go_wp2_with fail
  go_loopw [12] (fun jv wr=>∃ (q:Int) (s qs:List Nat), -1≤q∧q≤(L:Int) - ((k:Int)+2)∧jv= .int .i64 q∧Hid (s.length=k+2)∧gT 1000000000 s∧gT 1000000000 qs∧Hid (qs.length+(q+1).toNat=L - (k+2)+1) ∧
    Hid (aB wr w2.heap.size (eH (us.take (q+1).toNat++(s++List.replicate (L+1 - (q+1).toNat - (k+2)) 0))).toArray 61)∧Hid (aB wr w5.heap.size (eH (List.replicate (q+1).toNat 0++qs)).toArray 61) ∧
    Hid (val 1000000000 (us.drop (q+1).toNat)=b*S*val 1000000000 qs+val 1000000000 s)∧Hid (val 1000000000 s<b*S)∧Below w2.heap.size w2 wr) (fun jv _=>(intOf jv+1).toNat)
  case atStart =>
   have e:((L:Int) - ((k:Int)+2)+1).toNat=L - (k+2)+1:=by omega
   refine ⟨(L:Int) - ((k:Int)+2),us.drop (L - (k+2)+1),[],by omega,Int.le_refl _,rfl,zh (by rw [List.length_drop,HD2.out];omega),hd3.drop _,gT.nil,zh (by rw [e];simp),zh ?_,zh ?_,zh (by rw [e];simp [val]),HD5,az6⟩
   ·rw [e,show L+1 - (L - (k+2)+1) - (k+2)=0 by omega,List.replicate_zero,List.append_nil,List.take_append_drop];exact az5.out
   ·rw [e,List.append_nil];exact az4.out
  case round =>
   clear az5 az4 az6 az7 az8 Dp ak3;obtain ⟨q,s,qs,hq1,hq2,rfl,HSL,hds,Jh,HQL,HBG,HBH,HVE,aC5,hbr⟩:=hrel
   by_cases hq:q<0
   ·have hq0:q= -1:=by omega
    subst hq0;have e0:((-1:Int)+1).toNat=0:=by omega
    rw [e0] at HBG HBH HVE HQL;simp only [List.take_zero,List.nil_append,List.replicate_zero,List.drop_zero,Nat.add_zero,Nat.sub_zero] at HBG HBH HVE HQL;have HE:=zh (VP hs0 (by rw [← HD4.out];exact HVE.out) aC5.out);have hbw:Below w.heap.size w wr:=Bt hbw2 hbr;have hDu:=zh (nY.xD (n:=k+2) (m:=L+1) HBG.out HSL.out zo zo);have hDq:=zh (nY.xD (n:=L - (k+2)+1) (m:=L - (k+2)+1) (post:=[]) (by rw [List.append_nil];exact HBH.out) HQL.out zo zo);have hle:val 1000000000 s / S≤b:=by rw [HE.out.2];exact Nat.le_of_lt (Nat.mod_lt _ hb0)
    have hsz:sz 1000000000 (val 1000000000 s)≤k+2:=dH zo _ _ (by have:=iZ (by omega:0<1000000000) hds;rwa [HSL.out] at this);go_wp2_with fail
    refine (qO _ _ _ hDu.out hds).mono ?_;rintro e w' ⟨v1,rfl,rfl,hv1⟩;go_wp2_with fail
    refine (yh _ _ S _ hv1 zo hs0 zo).mono ?_;rintro e w7 ⟨v2,rfl,kR,hv2⟩;have BX:=zh hv2;clear hv2;go_wp2_with fail
    refine (qO _ _ _ (hDq.out.later kR) Jh).mono ?_;rintro e w' ⟨v3,rfl,rfl,hv3⟩;have HV3:=zh hv3;clear hv3;go_wp2_with fail
    go_ret2
    exact ⟨v3,v2,rfl,Bt hbw kR,by rw [← HE.out.1];exact HV3.out,by rw [← HE.out.2];exact BX.out⟩
   ·obtain ⟨j,rfl⟩:=Int.eq_ofNat_of_zero_le (by omega:0≤q);have ej:((j:Int)+1).toNat=j+1:=by omega
    rw [ej] at HBG HBH HVE HQL;have hjl:j<us.length:=by rw [HD2.out];omega
    go_wp2_with fail
    rw [show j+(k+2)+1 - j=k+3 by omega];have hux:us.getD j 0<1000000000:=hd3.getD zo j;have e1:us.take (j+1)++(s++List.replicate (L+1 - (j+1) - (k+2)) 0)=us.take j++(us.getD j 0::s)++List.replicate (L+1 - (j+1) - (k+2)) 0:=by rw [kV hjl];simp
    rw [e1] at HBG;have HW:=zh (Qq hux aC5.out);refine (Aw w2.heap.size j k (L+1 - j) pv cv (us.take j) (us.getD j 0::s) (List.replicate (L+1 - (j+1) - (k+2)) 0) (d9 1000000000 (b*S)) wr (by rw [List.length_take];omega) (by simp [HSL.out]) HVL.out (hds.cons hux) (dw zo _) zo HTV.out (by rw [bY zo];exact HW.out) HBG.out (fun i hi=>?_)).mono ?_
    ·obtain ⟨b',off',e1,h1,h2⟩:=HVR.out i (by rw [HVL.out];exact hi);exact ⟨b',off',e1,Nat.ne_of_lt h1,Nat.lt_of_lt_of_le h1 hbr.size,(hbr.cell (by exact h1)).trans h2⟩
    ·rintro e wx ⟨rfl,ac4,s',hB',ax3,aI4,aj0⟩;rw [bY zo] at aj0 ⊢;have HB':=zh hB';have aD0:=zh aj0;have aO6:=zh ax3;have hbx:Below w2.heap.size w2 wx:=FV hbr ac4 hbr.size (Nat.le_refl _);have hBx:aB wx w5.heap.size (eH (List.replicate (j+1) 0++qs)).toArray 61:=(ac4.block _ (aB.lt HBH.out) (by simp;omega)).trans HBH.out;have sJ:=zh hBx;clear hB' aj0 ax3 hBx;generalize hqh:val 1000000000 (us.getD j 0::s) / (b*S)=qh at *;have HQH:=zh hqh;clear hqh
     have HQ0:wx.cell? ⟨w5.heap.size,j,none⟩=some (.int .u32 0):=by
      rw [sJ.out.cell,List.getElem?_toArray,oG (by simp;omega),vX zo];rfl
     have HQF:wx.frozen? ⟨w5.heap.size,j,none⟩=false:=sJ.out.free _;go_wp2_with fail
     have hbs:0<b*S:=Nat.mul_pos hb0 hs0;have hqd:qh<1000000000:=by rw [← HQH.out];exact Nat.div_lt_of_lt_mul HW.out
     have ej2:((j:Int) - 1+1).toNat=j:=by omega
     have Wv:((⟨w5.heap.size,j,none⟩:Addr).block)=w5.heap.size:=rfl;refine ⟨⟨(j:Int) - 1,s',qh::qs,by omega,by omega,rfl,aO6,aI4,Jh.cons hqd,zh ?_,zh ?_,zh ?_,zh ?_,zh ?_,?_⟩,?_⟩
     ·rw [ej2,List.length_cons];have:=HQL.out;omega
     ·have h1:=HB'.out.setOther (a:=⟨w5.heap.size,j,none⟩) (.int .u32 (qh:Int)) (by simp;omega);rw [ej2]
      have e2:us.take j++(s'++[0])++List.replicate (L+1 - (j+1) - (k+2)) 0=us.take j++(s'++List.replicate (L+1 - j - (k+2)) 0):=by
       rw [show L+1 - j - (k+2)=(L+1 - (j+1) - (k+2))+1 by omega,List.replicate_succ];simp
      rw [e2] at h1;exact h1
     ·have h1:=sJ.out.set j (.int .u32 (qh:Int));rw [List.setIfInBounds_toArray,mJ,yt] at h1;rw [ej2];exact h1
     ·rw [ej2];exact R8 hjl HVE.out HQH.out.symm aD0.out
     ·rw [aD0.out];exact Nat.mod_lt _ hbs
     ·exact hbx.setCell (by simp;omega) _
     ·simp only [intOf];omega):G:=h
theorem AU (pa pb:Option Addr) (ca cb:Nat) (a b k:Nat) (w:World) (hx:bZ w (aj pa (sz 1000000000 a) ca) a) (hy:bZ w (aj pb (k+2) cb) b) (hsb:sz 1000000000 b=k+2) (h:b≤a) (ha:sz 1000000000 a≤549755813888) :
  Calls Tryz.prog 143 #[aj pa (sz 1000000000 a) ca,aj pb (k+2) cb] w (oF w (a / b) (a%b)):=ar4
theorem _root_.Go.ar3 {G:Prop} (h:G:=by
 rcases Nat.lt_or_ge a b with h|h
 ·exact AV x y a b w hx hy h
 ·obtain ⟨p,c,e1, -, -, -⟩:=nY.read hx.DU;obtain ⟨q,d,e2, -, -, -⟩:=nY.read hy.DU
  have hp:sz 1000000000 b≠0:=fun h0=>by
   have:=(oO (B:=1000000000) zo (n:=b)).mp (List.length_eq_zero_iff.mp h0);omega
  have e3:(d9 1000000000 b).length=sz 1000000000 b:=rfl;rw [e3] at e2;subst e1
  rcases Nat.lt_or_ge (sz 1000000000 b) 2 with h2|h2
  ·have h1:sz 1000000000 b=1:=by omega
   rw [h1] at e2;subst e2;have:=jE (B:=1000000000) zo b;rw [h1] at this;exact yT p q c d a b w hx hy hb zo h ha
  ·obtain ⟨k,hk⟩:∃ k,sz 1000000000 b=k+2:=⟨sz 1000000000 b - 2,by omega⟩;rw [hk] at e2;subst e2;exact AU p q c d a b k w hx hy hk h ha):G:=h
theorem iI (x y:Value) (a b:Nat) (w:World) (hx:bZ w x a) (hy:bZ w y b) (hb:0<b) (ha:sz 1000000000 a≤549755813888) :
  Calls Tryz.prog 143 #[x,y] w (oF w (a / b) (a%b)):=ar3
end Go.Proofs.fC
namespace Go.Proofs.fC
open Go Go.RowKit Go.SW Go.Num Go.Mem Go.Proofs Go.Proofs.jN Go.Dec
theorem _root_.Go.ar2 {G:Prop} (h:G:=by
 have hlen:=mX 9 d zo hd;have H:=zh h;have HT:=zh ht;clear h ht;go_enter as9,as8
 go_wp2_with (go_at_call 249;refine (PE d hd _ HT.out).mono ?_;rintro e w1 ⟨rfl,hb1⟩)
 have HL:=zh hlen;generalize hL:(Lib.decDigits d).length=L at *;have HLe:=zh hL;clear hL
 go_loopw [13] (fun jv wr=>∃ i:Nat,jv= .int .i64 (i:Int)∧Hid (i=0∨i+L≤wd)∧Hid (Uc B b (Lib.byteCells (l++List.replicate i 48)) wr)∧Below B w wr) (fun jv _=>wd - (intOf jv).toNat)
 case atStart =>
  exact ⟨0,rfl,zh (.inl rfl),zh (by simpa using H.out.later hb1),hb1.mono hB⟩
 case round =>
  obtain ⟨i,rfl,HI,HB,hbr⟩:=hrel
  have hcells:Lib.byteCells (l++List.replicate i 48)++[.int .u8 48]=Lib.byteCells (l++List.replicate (i+1) 48):=by
   rw [List.replicate_succ',← List.append_assoc,Lib.byteCells_append _ [48]];rfl
  by_cases hlt:i+L<wd
  ·go_wp2_with (go_at_call 270;refine (GX B b _ 48 _ HB.out (by rw [Lib.byteCells_length];simp;omega) (Nat.le_trans hB hbr.size)).mono ?_;rintro e w2 ⟨rfl,h2,hb2⟩;rw [hcells] at h2)
   exact ⟨⟨i+1,by simp,zh (.inr zo),zh (.inr h2),hbr.trans hb2⟩,by simp [intOf];omega⟩
  ·have hi:i=wd - L:=by
    rcases HI.out with h|h
    ·omega
    ·omega
   have hsz:(⟨(Lib.decDigits d).toArray⟩:ByteArray).size=L:=HLe.out;go_wp2_with (go_at_call 271;refine (Cb B b _ _ _ HB.out (by rw [Lib.byteCells_length,hsz];simp;omega) (Nat.le_trans hB hbr.size)).mono ?_;rintro e w2 ⟨rfl,h2,hb2⟩)
   go_end0
   refine ⟨rfl,.inr ?_,hbr.trans hb2⟩;rw [HLe.out,← hi,← List.append_assoc,Lib.byteCells_append];exact h2):G:=h
theorem MF (B b d wd:Nat) (l:List UInt8) (w:World) (h:Uc B b (Lib.byteCells l) w) (hB:B≤w.heap.size) (hw:wd≤9) (hd:d<1000000000) (hl:l.length≤140737488355000) (ht:Pow w) :
  Calls Tryz.prog 269 #[Z .u32 d,Z I wd,aA (some ⟨b,0,none⟩)] w fun e w'=>e= ah (aD #[])∧Uc B b (Lib.byteCells (l++(bW (wd - (Lib.decDigits d).length) 48++Lib.decDigits d))) w'∧Below B w w':=ar2
def EJ (w:World) (n:Nat) (e:Ending) (w':World):Prop:=e= ah (O ⟨(Lib.decDigits n).toArray⟩)∧Below w.heap.size w w'
theorem _root_.Go.ar1 {G:Prop} (h:G:=by
 have hd:=dw (B:=1000000000) zo a;have htop:=oH (B:=1000000000) zo a;have hva:=bY (B:=1000000000) zo a;unfold sz at ha
 rcases Nat.eq_zero_or_pos a with h0|h0
 ·subst h0;have H:=zh hx;clear hx;go_enter ad9,ad8
  go_wp2_with ((first|go_at_call 201|go_at_call 295);refine (iU _ _ _ H.out).mono ?_;rintro e w1 ⟨rfl,rfl⟩)
  go_ret
  exact ⟨by rw [iW zo];rfl,Below.refl _ _⟩
 ·obtain ⟨p,c,rfl,hc1,hc2,hread⟩:=nY.read hx.DU;generalize hl:d9 1000000000 a=l at *;have hne:l≠[]:=fun e=>by rw [e] at hva;simp [val] at hva;omega
  obtain ⟨n,hn⟩:∃ n,l.length=n+1:=⟨l.length - 1,by have:=List.length_pos_iff.mpr hne;omega⟩;have H:=zh hx;have HR:=zh hread;have HV:=zh hva;have HN:=zh hn;have HL:=zh hl;have HT:=zh ht;rw [hn] at ha hc1 ⊢;have ha0:decide (a=0)=false:=by simp;omega
  clear hx hread hva hl ht hn;obtain ⟨b,off,rfl,hb,hcell⟩:=HR.out n (by have:=HN.out;omega);have hpos:∀ i,i≤n→0<val 1000000000 (l.drop i):=fun i hi=>jl zo (Ck htop i) (fun e=>by have:=congrArg List.length e;rw [List.length_drop,HN.out] at this;simp at this;omega)
  have hdl:∀ i,(Lib.decDigits (val 1000000000 (l.drop i))).length≤9*(n+1)+1:=fun i=>by
   have h1:=vD (hd.drop i);rw [List.length_drop,HN.out] at h1;omega
  have HP:=zh hpos;have F7:=zh hdl;clear hpos hdl
  have hd0:val 1000000000 (l.drop n)=l.getD n 0:=by
   rw [jZ (by have:=HN.out;omega),List.drop_eq_nil_of_le (by have:=HN.out;omega)];simp [val]
  have hdb:=hd.getD zo n;generalize hdn:l.getD n 0=dn at *;have HDN:=zh hdn;have HD0:=zh hd0;clear hdn hd0;have Wv:Below w.heap.size w (w.alloc (.cells #[.pointer none,.slice none 0 0] 277 (0,0))):=(Below.refl _ _).alloc (Nat.le_refl _) _;have hcw:(w.alloc (.cells #[.pointer none,.slice none 0 0] 277 (0,0))).cell? ⟨b,off+n,none⟩=some (.int .u32 (dn:Nat)):=(Wv.cell (by exact hb)).trans hcell;have hb0:Uc w.heap.size w.heap.size (Lib.byteCells []) (w.alloc (.cells #[.pointer none,.slice none 0 0] 277 (0,0))):=Lib.fresh_isBuilder _ _ w;have HB0:=zh hb0;clear hb0;go_enter ad9,ad8
  go_wp2_with ((first|go_at_call 201|go_at_call 295);refine (iU _ a _ (by rw [← HN.out];exact H.out)).mono ?_;rintro e w1 ⟨rfl,rfl⟩;rw [ha0])
  refine (MF _ _ dn 0 [] _ HB0.out zi zo hdb zi (HT.out.later Wv)).mono ?_;rintro e w2 ⟨rfl,h2,hb2⟩;rw [Nat.zero_sub,List.replicate_zero,List.nil_append,List.nil_append,← HD0.out] at h2;have H2:=zh h2;have hbw2:Below w.heap.size w w2:=Wv.trans hb2;clear h2;go_wp2_with fail
  go_loopw [6] (fun jv wr=>∃ i:Nat,jv= .int .i64 ((i:Int) - 1)∧i≤n∧Hid (Uc w.heap.size w.heap.size (Lib.byteCells (Lib.decDigits (val 1000000000 (l.drop i)))) wr)∧Below w.heap.size w wr) (fun jv _=>(intOf jv+1).toNat)
  case atStart=>exact ⟨n,rfl,Nat.le_refl _,H2,hbw2⟩
  case round =>
   obtain ⟨i,rfl,hi,HB,hbr⟩:=hrel
   rcases Nat.eq_zero_or_pos i with h1|h1
   ·subst h1;rw [List.drop_zero,HV.out] at HB;go_wp2_with fail
    refine (Tryz.Builder_String_any _ _ _ _ HB.out hbr.size).mono ?_;rintro e w3 ⟨rfl,hb3⟩;go_wp2_with fail
    go_ret
    exact ⟨rfl,hbr.trans hb3⟩
   ·obtain ⟨j,rfl⟩:∃ j,i=j+1:=⟨i - 1,by omega⟩;have hj:j<l.length:=by have:=HN.out;omega
    obtain ⟨b',off',e1,hb',hcell'⟩:=HR.out j hj;simp only [Option.some.injEq,Addr.mk.injEq,and_true] at e1;obtain ⟨rfl,rfl⟩:=e1;have hcr:=(hbr.cell (p:=⟨b,off+j,none⟩) (by exact hb)).trans hcell';have hjb:=hd.getD zo j;have HG:=zh (Gw hj hd (HP.out (j+1) hi));generalize hdj:l.getD j 0=dj at *;have HDJ:=zh hdj;clear hdj hcell';go_wp2_with fail
    refine (MF _ _ dj 9 _ _ HB.out hbr.size zo hjb (by have:=F7.out (j+1);omega) (HT.out.later hbr)).mono ?_;rintro e w3 ⟨rfl,h3,hb3⟩;rw [← HG.out] at h3;have H3:=zh h3;clear h3;go_wp2_with fail
    refine ⟨⟨j,rfl,by omega,H3,hbr.trans hb3⟩,?_⟩;simp only [intOf];omega):G:=h
theorem sw (x:Value) (a:Nat) (w:World) (hx:bZ w x a) (ha:sz 1000000000 a≤1099511627776) (ht:Pow w) :
  Calls Tryz.prog 220 #[x] w (EJ w a):=ar1
theorem _root_.Go.ar0 {G:Prop} (h:G:=by
 have hd:=dw (B:=1000000000) zo a;have htop:=oH (B:=1000000000) zo a;have hva:=bY (B:=1000000000) zo a;unfold sz at ha
 rcases Nat.eq_zero_or_pos a with h0|h0
 ·subst h0;have H:=zh hx;clear hx;rw [iW zo];go_enter ad7,ad6
  go_wp2_with ((first|go_at_call 201|go_at_call 295);refine (iU _ _ _ H.out).mono ?_;rintro e w1 ⟨rfl,rfl⟩)
  go_ret
  exact ⟨rfl,Below.refl _ _⟩
 ·obtain ⟨p,c,rfl,hc1,hc2,hread⟩:=nY.read hx.DU;generalize hl:d9 1000000000 a=l at *;have hne:l≠[]:=fun e=>by rw [e] at hva;simp [val] at hva;omega
  obtain ⟨n,hn⟩:∃ n,l.length=n+1:=⟨l.length - 1,by have:=List.length_pos_iff.mpr hne;omega⟩;have hlt:=KO hn hd htop;have hdb:=hd.getD zo n;have hl9:=mX 9 _ zo hdb;rw [hva] at hlt;rw [hlt];obtain ⟨b,off,rfl,hb,hcell⟩:=hread n zo;have H:=zh hx;have HN:=zh hn;have HT:=zh ht;rw [hn] at ha hc1 ⊢;have ha0:decide (a=0)=false:=by simp;omega
  generalize hdn:l.getD n 0=dn at *;clear hx hread hva hl ht hn hlt hdn;generalize hL:(Lib.decDigits dn).length=L at *;have HL:Hid ((⟨(Lib.decDigits dn).toArray⟩:ByteArray).size=L):=zh hL;clear hL;go_enter ad7,ad6
  go_wp2_with (first
   | ((first|go_at_call 201|go_at_call 295);refine (iU _ a _ (by rw [← HN.out];exact H.out)).mono ?_;rintro e w1 ⟨rfl,rfl⟩;rw [ha0])
   | (go_at_call 249;refine (PE dn hdb _ HT.out).mono ?_;rintro e w1 ⟨rfl,hb1⟩;have hq:=HL.out))
  go_ret
  refine ⟨?_,hb1⟩;have e:(((9*n+L:Nat)):Int)=(n:Int)*9+(L:Int):=by omega
  rw [e];rfl):G:=h
theorem nu (x:Value) (a:Nat) (w:World) (hx:bZ w x a) (ha:sz 1000000000 a≤1099511627776) (ht:Pow w) :
  Calls Tryz.prog 219 #[x] w (fun e w'=>e= ah (Z I ((Lib.decDigits a).length:Nat))∧Below w.heap.size w w'):=ar0
end Go.Proofs.fC
namespace Go.Proofs.fC
open Go Go.RowKit Go.SW Go.Num Go.Mem Go.Proofs Go.Dec
theorem ac2:(Tryz.prog.info? 61).map (fun i=>(i.zero,i.size,i.bytes))=some (some (.int .u32 0),1,4):=by kernel_rfl
theorem vY (s:ByteArray) (hs:s.size≤1099511627776) (hd:rP s.data.toList) (w:World) :
  Calls Tryz.prog 274 #[O s] w (fun e w'=>∃ v,e= ah v∧Below w.heap.size w w'∧bZ w' v (num s.data.toList)):=zs3
end Go.Proofs.fC
namespace Go.Proofs.fC
open Go Go.RowKit Go.SW Go.Num Go.Mem Go.Proofs
theorem _root_.Go.aq9 {G:Prop} (h:G:=by
 obtain ⟨p,c,rfl, -, -, h1⟩:=nY.read h.DU;obtain ⟨p',c',e, -, -, h2⟩:=nY.read k.DU;simp only [Value.slice.injEq] at e;obtain ⟨rfl,hl,rfl⟩:=e
 have:d9 1000000000 m=d9 1000000000 n:=by
  refine List.ext_getElem hl fun i hi hi2=>?_;obtain ⟨b,o,e, -, hc⟩:=h1 i hi;obtain ⟨b',o',e', -, hc'⟩:=h2 i hi2;rw [e] at e';simp only [Option.some.injEq,Addr.mk.injEq,and_true] at e';obtain ⟨rfl,rfl⟩:=e';rw [hc] at hc';simp only [Option.some.injEq,Value.int.injEq,true_and] at hc';rw [List.getD_eq_getElem?_getD,List.getD_eq_getElem?_getD,List.getElem?_eq_getElem hi,List.getElem?_eq_getElem hi2] at hc'
  simpa using Int.ofNat_inj.mp hc'
 rw [← bY (B:=1000000000) zo m,this,bY zo]):G:=h
theorem bZ.inj {w:World} {v:Value} {m n:Nat} (h:bZ w v m) (k:bZ w v n):m=n:=aq9
open Classical in
noncomputable def Db (w:World) (v:Value):Nat:=if h:∃ n,bZ w v n then h.choose else 0
theorem uS {w:World} {v:Value} {n:Nat} (h:bZ w v n):Db w v=n:=by
 unfold Db;rw [dif_pos ⟨n,h⟩];exact bZ.inj (Exists.choose_spec (⟨n,h⟩:∃ n,bZ w v n)) h
theorem xI (x y:Value) (a b:Nat) (w:World) (hx:bZ w x a) (hy:bZ w y b) (ha:sz 1000000000 a≤549755813888) (hb:sz 1000000000 b≤549755813888) :
  Calls Tryz.prog 142 #[x,y] w (fun e w'=>∃ v,e= ah v∧Below w.heap.size w w'∧bZ w' v (Nat.gcd a b)):=by
 generalize hG:Nat.gcd a b=G;have HG:=zh hG;have HX:=zh hx;have HY:=zh hy;clear hx hy hG;go_enter Tryz.func142,Tryz.ntmps142
 go_wp2_with fail
 go_loopw [0,1] (fun vx vy wr=>∃ a b:Nat,Hid (bZ wr vx a)∧Hid (bZ wr vy b)∧Hid (Nat.gcd a b=G)∧Hid (sz 1000000000 a≤549755813888)∧Hid (sz 1000000000 b≤549755813888)∧Below w.heap.size w wr) (fun _ vy wr=>Db wr vy)
 case atStart=>exact ⟨a,b,HX,HY,HG,zh ha,zh hb,Below.refl _ _⟩
 case round =>
  obtain ⟨a,b,HX,HY,HG,HA,HB,hbr⟩:=hrel;obtain ⟨p,c,rfl,hc1,hc2,hread⟩:=nY.read HX.out.DU;obtain ⟨p',c',rfl,hc1',hc2',aj1⟩:=nY.read HY.out.DU;clear hread aj1
  have HLA:=zh (show ((d9 1000000000 a).length:Int)≤2→a≤18446744073709551615 from fun h=>by
   have h1:=jE (B:=1000000000) zo a;have h2:(1000000000:Nat)^sz 1000000000 a≤1000000000^2:=bH zo (by unfold sz;omega);omega)
  have HLB:=zh (show ((d9 1000000000 b).length:Int)≤2→b≤18446744073709551615 from fun h=>by
   have h1:=jE (B:=1000000000) zo b;have h2:(1000000000:Nat)^sz 1000000000 b≤1000000000^2:=bH zo (by unfold sz;omega);omega)
  rcases aX b with h0|h0
  ·subst h0;rw [Nat.gcd_zero_right] at HG;go_wp2_with (go_at_call 201;refine (iU _ 0 _ HY.out).mono ?_;rintro e w1 ⟨rfl,rfl⟩)
   go_ret
   exact ⟨_,rfl,hbr,by rw [← HG.out];exact HX.out⟩
  ·have hb0:decide (b=0)=false:=by simp;omega
   go_wp2_with (go_at_call 201;refine (iU _ b _ HY.out).mono ?_;rintro e w1 ⟨rfl,rfl⟩;rw [hb0])
   ·refine (Jw _ a _ HX.out (HLA.out (by assumption))).mono ?_;rintro e w' ⟨rfl,rfl⟩;go_wp2_with fail
    refine (Jw _ b _ HY.out (HLB.out (by assumption))).mono ?_;rintro e w' ⟨rfl,rfl⟩;have hla:=HLA.out (by assumption);have hlb:=HLB.out (by assumption);go_wp2_with fail
    go_loopw [5,6] (fun v5 v6 wi=>∃ c d:Nat,v5= Z .u64 (c:Int)∧v6= Z .u64 (d:Int)∧c≤18446744073709551615∧d≤18446744073709551615∧Hid (Nat.gcd c d=G)∧Below w.heap.size w wi) (fun _ v6 _=>(intOf v6).toNat)
    case atStart=>exact ⟨a,b,rfl,rfl,hla,hlb,HG,hbr⟩
    case round =>
     obtain ⟨c,d,rfl,rfl,hc,hd,HG2,hbi⟩:=hrel
     rcases aX d with h1|h1
     ·subst h1;rw [Nat.gcd_zero_right] at HG2;go_wp2_with fail
      refine (nT c _ hc).mono ?_;rintro e w3 ⟨v3,rfl,hb3,hv3⟩;have HV3:=zh hv3;clear hv3;go_wp2_with fail
      go_ret
      exact ⟨_,rfl,Bt hbi hb3,by rw [← HG2.out];exact HV3.out⟩
     ·have hcd:((c%d:Nat):Int)=(c:Int)%(d:Int):=Int.natCast_emod _ _;have hlt:c%d<d:=fI _ h1;go_wp2_with fail
      go_quiet (fail)
      go_wp2_with fail
      refine ⟨⟨d,c%d,rfl,by rw [hcd],hd,by omega,zh ?_,below_drewN hbi _⟩,?_⟩
      ·rw [← HG2.out,Nat.gcd_comm d,← Nat.gcd_rec,Nat.gcd_comm]
      ·rw [← hcd];simp only [intOf];omega
   all_goals
    refine (iI _ _ a b _ HX.out HY.out h0 HA.out).mono ?_;rintro e w2 ⟨vq,vr,rfl,hb2,hq,hr⟩;have HR:=zh hr;clear hq hr;go_wp2_with fail
    refine ⟨⟨b,a%b,zh (HY.out.later hb2),HR,zh ?_,HB,zh (ay (fB zo (Nat.mod_le _ _)) HA.out),Bt hbr hb2⟩,?_⟩
    ·rw [← HG.out,Nat.gcd_comm b,← Nat.gcd_rec,Nat.gcd_comm]
    ·rw [uS HR.out,uS HY.out];exact fI _ h0
end Go.Proofs.fC
namespace Go.Proofs.fC
open Go Go.RowKit Go.SW Go.Num Go.Mem Go.Proofs Go.Dec
theorem _root_.Go.aq8 {G:Prop} (h:G:=by
 obtain ⟨JO,lH,K7,rfl⟩:=h.slice;have H:=zh h;clear h;cases b
 all_goals
  go_enter as7,as6
  go_wp2_with ((first|go_at_call 201|go_at_call 295);refine (iU _ n _ aY).mono ?_;rintro e w1 ⟨rfl,rfl⟩)
  refine ig rfl rfl bI UC rfl zk ?_;refine ⟨_,rfl,aJ,fK.mk aY (kX n _).symm ?_⟩;rw [← OZ];rfl):G:=h
theorem gD (m:Value) (n:Nat) (b:Bool) (w:World) (h:bZ w m n) :
  Calls Tryz.prog 144 #[m,ak b] w (fun e w'=>∃ v,e= ah v∧Below w.heap.size w w'∧fK w' v (jh n b)):=aq8
theorem kJ (z:Int) (hz:(Lib.decDigits z.natAbs).length≤600) (w:World) :
  Calls Tryz.prog 222 #[dW z] w (fun e w'=>∃ v,e= ah v∧Below w.heap.size w w'∧fK w' v z):=by
 have HC:=zh (whole.tQ ⟨(Lib.itoa z).toArray⟩);have e1:(⟨(Lib.itoa z).toArray⟩:ByteArray).data.toList=Lib.itoa z:=rfl;rw [e1,KU] at HC;have HG:=zh (fun w=>vY ⟨(Lib.decDigits z.natAbs).toArray⟩ (ay hz zo) (nU _) w);have e2:(⟨(Lib.decDigits z.natAbs).toArray⟩:ByteArray).data.toList=Lib.decDigits z.natAbs:=rfl;rw [e2,oD] at HG;clear hz;unfold dW;go_enter Tryz.func222,Tryz.ntmps222
 go_wp2_with (first
  | (go_at_call 273;refine (HC.out _).mono ?_;rintro e w1 ⟨rfl,rfl⟩)
  | (go_at_call 274;refine (HG.out _).mono ?_;rintro e w2 ⟨v,rfl,hb2,hv⟩;obtain ⟨aF1,lHV,aK7,rfl⟩:=hv.slice;have HV:=zh hv;clear hv;have BR:=aB.later (aB.new _ _ _) hb2;have dV:=BR.cell;have dU:=BR.free))
 refine ig rfl rfl bI Tryz.underlying106 rfl zk ?_;exact ⟨_,rfl,aJ,fK.gV aY⟩
theorem Ay (v:Value) (z:Int) (w:World) (h:fK w v z) :
  Calls Tryz.prog 148 #[v] w (fun e w'=>∃ v,e= ah v∧Below w.heap.size w w'∧fK w' v (-z)):=by
 obtain ⟨JO,lH,K7,rfl,H⟩:=h;replace H:=zh H;go_enter Tryz.func148,Tryz.ntmps148
 go_wp2_with (go_at_call 144;refine (gD _ _ _ _ aY).mono ?_;rintro e w1 ⟨v,rfl,hb1,hv⟩;obtain ⟨aV7,lH1,ba5,rfl,H1⟩:=hv;replace H1:=zh H1;have BR:=aB.later (aB.qM _ _ _ _) hb1;have dV:=BR.cell;have dU:=BR.free)
 refine ig rfl rfl bI Tryz.underlying106 rfl zk ?_;exact ⟨_,rfl,aJ,(fK.gV aY).cast (OY z)⟩
theorem rU (v u:Value) (z:Int) (n:Nat) (w:World) (h:fK w v z) (hu:bZ w u n) (hz:sz 1000000000 z.natAbs≤549755813888) (hn:sz 1000000000 n≤549755813888) :
  Calls Tryz.prog 146 #[v,u] w (fun e w'=>∃ v,e= ah v∧Below w.heap.size w w'∧fK w' v (z*n)):=by
 obtain ⟨JO,lH,K7,rfl,H⟩:=h;replace H:=zh H;obtain ⟨aV1,lHU,aZ9,rfl⟩:=hu.slice;have HU:=zh hu;clear hu;have HN:=zh hn;have HZ:=zh hz;clear hn hz;go_enter Tryz.func146,Tryz.ntmps146
 go_wp2_with fail
 refine aO [(.pure,0),(.read,1),(.pure,2),(.pure,4),(.read,5),(.ext,3),(.ext,6),(.fin,7)] zk zk zR zP ?_;refine zV ?_;refine aU rfl rfl (fun w1 hb1 J hJ=>?_);go_simp;have BR:=aB.later (aB.drew (aB.qM _ _ _ _)) hb1;have dV:=BR.cell;have dU:=BR.free;refine (kE _ _ _ _ _ aY aY (ay HZ.out zo) (ay HN.out zo)).mono ?_;rintro e w2 ⟨v,rfl,hb2,hv⟩;obtain ⟨aF1,lHV,aK7,rfl⟩:=hv.slice;have HV:=zh hv;clear hv;replace BR:=aB.later (BR) hb2;replace dV:=BR.cell;replace dU:=BR.free;refine hJ _ _ hb2 ?_;clear hJ J;refine aU rfl rfl (fun w3 hb3 J hJ=>?_);go_simp;replace BR:=aB.later (BR) hb3;replace dV:=BR.cell;replace dU:=BR.free;refine (gD _ (z.natAbs*n) _ _ aY).mono ?_;rintro e w4 ⟨v,rfl,hb4,hv⟩;obtain ⟨aV5,lH4,ba3,rfl,H4⟩:=hv;replace H4:=zh H4;replace BR:=aB.later (BR) hb4;replace dV:=BR.cell;replace dU:=BR.free
 refine hJ _ _ hb4 ?_;clear hJ J;refine dD [_] rfl (fun w5 hb5=>?_);replace BR:=aB.later (BR) hb5;replace dV:=BR.cell;replace dU:=BR.free;go_wp2_with fail
 refine ig rfl rfl bI Tryz.underlying106 rfl zk ?_;exact ⟨_,rfl,aJ,(fK.gV aY).cast (Yo z n)⟩
end Go.Proofs.fC
