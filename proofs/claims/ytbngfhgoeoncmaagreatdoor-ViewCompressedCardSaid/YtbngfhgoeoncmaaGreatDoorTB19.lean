/- Lemmas for the proof. No condition. -/
import Derived.Test.YtbngfhgoeoncmaaGreatDoorTB18
import Derived.Laws.CopyOwn
set_option linter.unusedVariables false
set_option linter.unusedSimpArgs false
set_option maxRecDepth 100000
set_option maxHeartbeats 16000000
open Go.Ending renaming returned → ah
open Go.IntKind renaming i64 → I
open Go.Value renaming bool → aC, int → Z, pointer → au, slice → aj, string → O, tuple → aF
open List renaming replicate → bP
namespace Go.Proofs.dw
open Go Go.RowKit Go.SW Go.Num Go.Mem Go.Proofs
def jl (w:World) (q r:Nat) (e:Ending) (w':World):Prop:=∃ vq vr,e= ah (aF #[vq,vr])∧Below w.heap.size w w'∧aT w' vq q∧aT w' vr r
theorem _root_.Go.Vr {G:Prop} (h:G:=by
 have HX:=zh hx;have hs:=nM h;rw [Nat.div_eq_of_lt h,Nat.mod_eq_of_lt h];have HC:=zh (iT x y a b w hx hy);rw [hs] at HC;clear hx hs hy h;go_enter NI,NH
 go_wp2_with ((first|go_at_call 156|go_at_call 244|go_at_call 266);refine (HC.out).mono ?_;rintro e w1 ⟨rfl,hb1⟩)
 go_ret2
 exact ⟨_,_,rfl,hb1,aT.zero _,HX.out.later hb1⟩):G:=h
theorem rH (x y:Value) (a b:Nat) (w:World) (hx:aT w x a) (hy:aT w y b) (h:a<b) :
  Calls Tryz.prog 92 #[x,y] w (jl w (a / b) (a%b)):=Vr
theorem _root_.Go.Vq {G:Prop} (h:G:=by
 have hs:oM a b=0∨oM a b=1:=by
  rcases Nat.lt_or_ge b a with h2|h2
  ·exact .inr (mR h2)
  ·have:a=b:=by omega
   subst this;exact .inl (ow a)
 have hdb:fG 1000000000 b=[b]:=by rw [j3 zo hb0,Nat.mod_eq_of_lt hb1,Nat.div_eq_of_lt hb1,gY]
 obtain ⟨p,c,e1, -, -, e3⟩:=kP.read hy.xM;rw [hdb] at e1 e3;simp only [List.length_cons,List.length_nil,Value.slice.injEq] at e1;obtain ⟨rfl, -, rfl⟩:=e1;obtain ⟨b2,off,rfl,hb2,hcell⟩:=e3 0 zi;have hcell2:w.cell? ⟨b2,off,none⟩=some (.int .u32 (b:Int)):=by simpa using hcell
 have HC:=zh (iT _ _ a b w hx hy);have HX:=zh hx;clear hdb hcell e3 hx hy;have hmod:a%b<1000000000:=Nat.lt_trans (Nat.mod_lt _ hb0) hb1
 rcases hs with hs|hs
 all_goals
  rw [hs] at HC;clear hs;go_enter NI,NH
  go_wp2_with ((first|go_at_call 156|go_at_call 244|go_at_call 266);refine (HC.out).mono ?_;rintro e w1 ⟨rfl,Jb⟩;have hc1:w1.cell? ⟨b2,off,none⟩=some (.int .u32 (b:Int)):=(Jb.cell (by exact hb2)).trans hcell2)
  refine (qX _ a b _ (HX.out.later Jb) zo hb0 zo).mono ?_;rintro e w2 ⟨v,rfl,Tm,hv⟩;have HV:=zh hv;clear hv;generalize hm:a%b=m at *;have HM:=zh hm;clear hm;go_wp2_with fail
  refine (jP m _ zo).mono ?_;rintro e w3 ⟨v3,rfl,ab3,hv3⟩;have HV3:=zh hv3;clear hv3;go_wp2_with fail
  go_ret2
  exact ⟨_,_,rfl,Bt (Bt Jb Tm) ab3,HV.out.later ab3,HV3.out⟩):G:=h
theorem qo (pa pb:Option Addr) (ca cb:Nat) (a b:Nat) (w:World) (hx:aT w (aj pa (sz 1000000000 a) ca) a) (hy:aT w (aj pb 1 cb) b) (hb0:0<b) (hb1:b<1000000000) (h:b≤a) (ha:sz 1000000000 a≤549755813888) :
  Calls Tryz.prog 92 #[aj pa (sz 1000000000 a) ca,aj pb 1 cb] w (jl w (a / b) (a%b)):=Vq
theorem _root_.Go.Vp {G:Prop} (h:G:=by
 obtain ⟨i0,hi,hz0,hz1,hz2⟩:=info_parts uR
 have hs:oM a b=0∨oM a b=1:=by
  rcases Nat.lt_or_ge b a with h2|h2
  ·exact .inr (mR h2)
  ·have:a=b:=by omega
   subst this;exact .inl (ow a)
 have hb0:0<b:=by
  rcases Nat.eq_zero_or_pos b with h0|h0
  ·rw [h0,uJ] at hsb;omega
  ·exact h0
 have hkl:k+2≤sz 1000000000 a:=by rw [← hsb];exact jK zo h
 obtain ⟨ht0,htB,hs0,hs5,hsv,htv⟩:=EY hsb;obtain ⟨hd1,hd2,hd3,hd4,hd5⟩:=dividend (a:=a) hs0 zo hsb hkl;obtain ⟨p,c,e1, -, -, e3⟩:=kP.read hy.xM;have hlb:(fG 1000000000 b).length=k+2:=hsb;rw [hlb] at e1 e3;simp only [Value.slice.injEq] at e1;obtain ⟨rfl, -, rfl⟩:=e1;obtain ⟨b2,off,rfl,hb2,hcell⟩:=e3 (k+1) zo;have HC:=zh (iT _ _ a b w hx hy);have HX:=zh hx;have HY:=zh hy;have HSV:=zh hsv;have HTV:=zh htv;have HD4:=zh hd4;have HD5:=zh hd5;have HD2:=zh hd2;have QW:=zh hsb;clear e3 hx hy hsv htv hd4 hd5 hd2 hsb hlb;have htop:=QW.out;generalize hT:(fG 1000000000 b).getD (k+1) 0=t at *;clear hT htop;have hdiv:((1000000000 / (t+1):Nat):Int)=1000000000 / ((t:Int)+1):=by rw [Int.natCast_ediv];rfl
 have hsc1:(0:Int)≤1000000000 / ((t:Int)+1):=by rw [← hdiv];exact Int.natCast_nonneg _
 generalize hS:1000000000 / (t+1)=S at *;have hsc2:1000000000 / ((t:Int)+1)≤500000000:=by rw [← hdiv];omega
 have Y4:=zh hdiv;have HSq:=zh hS;clear hdiv hS;generalize hus:fG 1000000000 (a*S)++List.replicate (sz 1000000000 a+1 - sz 1000000000 (a*S)) 0=us at *;have HUS:=zh hus;clear hus;generalize hL:sz 1000000000 a=L at *;have HL:=zh hL;clear hL
 rcases hs with hs|hs
 all_goals
  rw [hs] at HC;clear hs;go_enter NI,NH
  go_wp2_with ((first|go_at_call 156|go_at_call 244|go_at_call 266);refine (HC.out).mono ?_;rintro e w1 ⟨rfl,Jb⟩;have hc1:w1.cell? ⟨b2,off+(k+1),none⟩=some (.int .u32 (t:Int)):=(Jb.cell (by exact hb2)).trans hcell)
  rw [← Y4.out];refine (iE _ _ b S _ ((HY.out.later Jb).later ((Below.refl _ _).alloc (Nat.le_refl _) _)) (aT.lit hs0 zo) (by rw [QW.out];omega) (by have:=cZ (B:=1000000000) zo 1 S zo;omega)).mono ?_;rintro e w2 ⟨vv,rfl,Tm,hv⟩;have hbw2:Below w.heap.size w w2:=Bt (Bt Jb ((Below.refl _ _).alloc (Nat.le_refl _) _)) Tm;obtain ⟨pv,cv,rfl,hv1,hv2,hv3⟩:=kP.read hv.xM;have HVR:=zh hv3;have hvl:(fG 1000000000 (b*S)).length=k+2:=HSV.out;rw [hvl] at hv1 ⊢;have HVL:=zh hvl;clear hv hv3 hvl hc1 Tm;go_wp2_with (at_make;refine wpList_make_full _ rfl _ _ DV rfl w2.heap.size 22 i0 (.int .u32 0) 1 D9 hi hz0 hz1 _ _ _ _ (L+1) rfl rfl zo zo (by rw [hz2];omega) (by unfold maxLen;omega) (Nat.le_refl _) ?_)
  intro w3 hown3 hgrow3;rw [o7] at hown3;have ab1:=zh (wP hown3).1;have WW:Below w2.heap.size w2 w3:=(Below.refl _ _).grown hgrow3 (Nat.le_refl _) (fun k h=>by cases h);clear hown3 hgrow3;go_wp2_with fail
  refine (iE _ _ a S _ ((HX.out.later (Bt hbw2 WW)).later ((Below.refl _ _).alloc (Nat.le_refl _) _)) (aT.lit hs0 zo) (by rw [HL.out];omega) (by have:=cZ (B:=1000000000) zo 1 S zo;omega)).mono ?_;rintro e w4 ⟨vt,rfl,ab2,Z0⟩;obtain ⟨pt,ct,rfl,ht1,ht2,ht3⟩:=kP.read Z0.xM;have WV:Below w3.heap.size w3 w4:=Bt ((Below.refl _ _).alloc (Nat.le_refl _) _) ab2;have ab0:=zh (ab1.out.later WV);have ab8:=Bt WW WV;have HTS:=zh (fun h=>kP.src ht3 h);clear Z0 ht3 ab2 ab1
  go_wp2_with (refine wpList_copy_splice (o:=⟨some 54,_,_,_,_,_⟩) rfl (.tmp 49) (.tmp 53) DV DV rfl 22 D9 (by rw [hi];simp [hz1]) _ _ _ _ _ _ rfl rfl w2.heap.size 0 (dB (List.replicate (L+1) 0)) 22 ab0.out (dB (fG 1000000000 (a*S))) (by rw [dO];exact (Nat.min_eq_left hd1).symm) (fun h=>⟨rfl,HTS.out h⟩) (by rw [Nat.zero_add,dO,dO,List.length_replicate];exact hd1) (Cw _) w2.heap.size w2 ab8 (Nat.le_refl _) ?_)
  intro w5 aa9 ab7
  have PO:Hid (aA w5 w2.heap.size (dB us).toArray 22):=by
   have h1:=aa9.out;unfold splice at h1
   have e:List.take 0 (dB (List.replicate (L+1) 0))++(dB (fG 1000000000 (a*S))++List.drop (0+(dB (fG 1000000000 (a*S))).length) (dB (List.replicate (L+1) 0)))=dB us:=by
    rw [← HUS.out];unfold dB sz;simp
   rw [e] at h1;exact h1
  have hg5:w2.heap.size<w5.heap.size:=aA.lt PO.out;clear aa9 ab0 HTS;go_wp2_with (at_make;refine wpList_make_full _ rfl _ _ DV rfl w5.heap.size 22 i0 (.int .u32 0) 1 D9 hi hz0 hz1 _ _ _ _ (L - (k+2)+1) rfl rfl zo zo (by rw [hz2];omega) (by unfold maxLen;omega) (Nat.le_refl _) ?_)
  intro w6 hown6 PK;rw [o7] at hown6;have ab4:=zh (wP hown6).1;have WU:Below w5.heap.size w5 w6:=(Below.refl _ _).grown PK (Nat.le_refl _) (fun k h=>by cases h);have ab5:=zh (PO.out.later WU);have ab6:Below w2.heap.size w2 w6:=ab7.trans (WU.mono (Nat.le_of_lt hg5));clear hown6 PK PO WU;go_wp2_with fail
  go_loopw [12] (fun jv wr=>∃ (q:Int) (s qs:List Nat), -1≤q∧q≤(L:Int) - ((k:Int)+2)∧jv= .int .i64 q∧Hid (s.length=k+2)∧gF 1000000000 s∧gF 1000000000 qs∧Hid (qs.length+(q+1).toNat=L - (k+2)+1) ∧
    Hid (aA wr w2.heap.size (dB (us.take (q+1).toNat++(s++List.replicate (L+1 - (q+1).toNat - (k+2)) 0))).toArray 22)∧Hid (aA wr w5.heap.size (dB (List.replicate (q+1).toNat 0++qs)).toArray 22) ∧
    Hid (val 1000000000 (us.drop (q+1).toNat)=b*S*val 1000000000 qs+val 1000000000 s)∧Hid (val 1000000000 s<b*S)∧Below w2.heap.size w2 wr) (fun jv _=>(intOf jv+1).toNat)
  case atStart =>
   have e:((L:Int) - ((k:Int)+2)+1).toNat=L - (k+2)+1:=by omega
   refine ⟨(L:Int) - ((k:Int)+2),us.drop (L - (k+2)+1),[],by omega,Int.le_refl _,rfl,zh (by rw [List.length_drop,HD2.out];omega),hd3.drop _,gF.nil,zh (by rw [e];simp),zh ?_,zh ?_,zh (by rw [e];simp [val]),HD5,ab6⟩
   ·rw [e,show L+1 - (L - (k+2)+1) - (k+2)=0 by omega,List.replicate_zero,List.append_nil,List.take_append_drop];exact ab5.out
   ·rw [e,List.append_nil];exact ab4.out
  case round =>
   clear ab5 ab4 ab6 ab7 ab8 WW WV;obtain ⟨q,s,qs,hq1,hq2,rfl,HSL,hds,I8,HQL,Ur,Y5,Yf,ag1,hbr⟩:=hrel
   by_cases hq:q<0
   ·have hq0:q= -1:=by omega
    subst hq0;have e0:((-1:Int)+1).toNat=0:=by omega
    rw [e0] at Ur Y5 Yf HQL;simp only [List.take_zero,List.nil_append,List.replicate_zero,List.drop_zero,Nat.add_zero,Nat.sub_zero] at Ur Y5 Yf HQL;have HE:=zh (Pb hs0 (by rw [← HD4.out];exact Yf.out) ag1.out);have hbw:Below w.heap.size w wr:=Bt hbw2 hbr;have hDu:=zh (kP.zC (n:=k+2) (m:=L+1) Ur.out HSL.out zo zo);have hDq:=zh (kP.zC (n:=L - (k+2)+1) (m:=L - (k+2)+1) (post:=[]) (by rw [List.append_nil];exact Y5.out) HQL.out zo zo);have hle:val 1000000000 s / S≤b:=by rw [HE.out.2];exact Nat.le_of_lt (Nat.mod_lt _ hb0)
    have hsz:sz 1000000000 (val 1000000000 s)≤k+2:=cZ zo _ _ (by have:=jF (by omega:0<1000000000) hds;rwa [HSL.out] at this);go_wp2_with fail
    refine (nk _ _ _ hDu.out hds).mono ?_;rintro e w' ⟨v1,rfl,rfl,hv1⟩;go_wp2_with fail
    refine (qX _ _ S _ hv1 zo hs0 zo).mono ?_;rintro e w7 ⟨v2,rfl,mJ,hv2⟩;have Ig:=zh hv2;clear hv2;go_wp2_with fail
    refine (nk _ _ _ (hDq.out.later mJ) I8).mono ?_;rintro e w' ⟨v3,rfl,rfl,hv3⟩;have HV3:=zh hv3;clear hv3;go_wp2_with fail
    go_ret2
    exact ⟨v3,v2,rfl,Bt hbw mJ,by rw [← HE.out.1];exact HV3.out,by rw [← HE.out.2];exact Ig.out⟩
   ·obtain ⟨j,rfl⟩:=Int.eq_ofNat_of_zero_le (by omega:0≤q);have ej:((j:Int)+1).toNat=j+1:=by omega
    rw [ej] at Ur Y5 Yf HQL;have hjl:j<us.length:=by rw [HD2.out];omega
    go_wp2_with fail
    rw [show j+(k+2)+1 - j=k+3 by omega];have hux:us.getD j 0<1000000000:=hd3.getD zo j;have e1:us.take (j+1)++(s++List.replicate (L+1 - (j+1) - (k+2)) 0)=us.take j++(us.getD j 0::s)++List.replicate (L+1 - (j+1) - (k+2)) 0:=by rw [jG hjl];simp
    rw [e1] at Ur;have HW:=zh (Lf hux ag1.out);refine (q9 w2.heap.size j k (L+1 - j) pv cv (us.take j) (us.getD j 0::s) (List.replicate (L+1 - (j+1) - (k+2)) 0) (fG 1000000000 (b*S)) wr (by rw [List.length_take];omega) (by simp [HSL.out]) HVL.out (hds.cons hux) (eH zo _) zo HTV.out (by rw [dh zo];exact HW.out) Ur.out (fun i hi=>?_)).mono ?_
    ·obtain ⟨b',off',e1,h1,h2⟩:=HVR.out i (by rw [HVL.out];exact hi);exact ⟨b',off',e1,Nat.ne_of_lt h1,Nat.lt_of_lt_of_le h1 hbr.size,(hbr.cell (by exact h1)).trans h2⟩
    ·rintro e wx ⟨rfl,UM,s',hB',Z6,ak3,WQ⟩;rw [dh zo] at WQ ⊢;have HB':=zh hB';have ag6:=zh WQ;have ao7:=zh Z6;have hbx:Below w2.heap.size w2 wx:=tN hbr UM hbr.size (Nat.le_refl _);have hBx:aA wx w5.heap.size (dB (List.replicate (j+1) 0++qs)).toArray 22:=(UM.block _ (aA.lt Y5.out) (by simp;omega)).trans Y5.out;have JD:=zh hBx;clear hB' WQ Z6 hBx;generalize hqh:val 1000000000 (us.getD j 0::s) / (b*S)=qh at *;have HQH:=zh hqh;clear hqh
     have HQ0:wx.cell? ⟨w5.heap.size,j,none⟩=some (.int .u32 0):=by
      rw [JD.out.cell,List.getElem?_toArray,mE (by simp;omega),BU zo];rfl
     have HQF:wx.frozen? ⟨w5.heap.size,j,none⟩=false:=JD.out.free _;go_wp2_with fail
     have hbs:0<b*S:=Nat.mul_pos hb0 hs0;have Tc:qh<1000000000:=by rw [← HQH.out];exact Nat.div_lt_of_lt_mul HW.out
     have ej2:((j:Int) - 1+1).toNat=j:=by omega
     have hbo:((⟨w5.heap.size,j,none⟩:Addr).block)=w5.heap.size:=rfl;refine ⟨⟨(j:Int) - 1,s',qh::qs,by omega,by omega,rfl,ao7,ak3,I8.cons Tc,zh ?_,zh ?_,zh ?_,zh ?_,zh ?_,?_⟩,?_⟩
     ·rw [ej2,List.length_cons];have:=HQL.out;omega
     ·have h1:=HB'.out.setOther (a:=⟨w5.heap.size,j,none⟩) (.int .u32 (qh:Int)) (by simp;omega);rw [ej2]
      have e2:us.take j++(s'++[0])++List.replicate (L+1 - (j+1) - (k+2)) 0=us.take j++(s'++List.replicate (L+1 - j - (k+2)) 0):=by
       rw [show L+1 - j - (k+2)=(L+1 - (j+1) - (k+2))+1 by omega,List.replicate_succ];simp
      rw [e2] at h1;exact h1
     ·have h1:=JD.out.set j (.int .u32 (qh:Int));rw [List.setIfInBounds_toArray,jY,ET] at h1;rw [ej2];exact h1
     ·rw [ej2];exact Mk hjl Yf.out HQH.out.symm ag6.out
     ·rw [ag6.out];exact Nat.mod_lt _ hbs
     ·exact hbx.setCell (by simp;omega) _
     ·simp only [intOf];omega):G:=h
theorem rG (pa pb:Option Addr) (ca cb:Nat) (a b k:Nat) (w:World) (hx:aT w (aj pa (sz 1000000000 a) ca) a) (hy:aT w (aj pb (k+2) cb) b) (hsb:sz 1000000000 b=k+2) (h:b≤a) (ha:sz 1000000000 a≤549755813888) :
  Calls Tryz.prog 92 #[aj pa (sz 1000000000 a) ca,aj pb (k+2) cb] w (jl w (a / b) (a%b)):=Vp
theorem _root_.Go.Vo {G:Prop} (h:G:=by
 rcases Nat.lt_or_ge a b with h|h
 ·exact rH x y a b w hx hy h
 ·obtain ⟨p,c,e1, -, -, -⟩:=kP.read hx.xM;obtain ⟨q,d,e2, -, -, -⟩:=kP.read hy.xM
  have hp:sz 1000000000 b≠0:=fun h0=>by
   have:=(rJ (B:=1000000000) zo (n:=b)).mp (List.length_eq_zero_iff.mp h0);omega
  have e3:(fG 1000000000 b).length=sz 1000000000 b:=rfl;rw [e3] at e2;subst e1
  rcases Nat.lt_or_ge (sz 1000000000 b) 2 with h2|h2
  ·have h1:sz 1000000000 b=1:=by omega
   rw [h1] at e2;subst e2;have:=jO (B:=1000000000) zo b;rw [h1] at this;exact qo p q c d a b w hx hy hb zo h ha
  ·obtain ⟨k,hk⟩:∃ k,sz 1000000000 b=k+2:=⟨sz 1000000000 b - 2,by omega⟩;rw [hk] at e2;subst e2;exact rG p q c d a b k w hx hy hk h ha):G:=h
theorem dG (x y:Value) (a b:Nat) (w:World) (hx:aT w x a) (hy:aT w y b) (hb:0<b) (ha:sz 1000000000 a≤549755813888) :
  Calls Tryz.prog 92 #[x,y] w (jl w (a / b) (a%b)):=Vo
end Go.Proofs.dw
namespace Go.Proofs.dw
open Go Go.RowKit Go.SW Go.Num Go.Mem Go.Proofs Go.Proofs.iA Go.Dec
theorem _root_.Go.Vn {G:Prop} (h:G:=by
 have hlen:=lW 9 d zo hd;have H:=zh h;have HT:=zh ht;clear h ht;go_enter VF,VE
 go_wp2_with (go_at_call 149;refine (Km d hd _ HT.out).mono ?_;rintro e w1 ⟨rfl,hb1⟩)
 have HL:=zh hlen;generalize hL:(Lib.decDigits d).length=L at *;have HLe:=zh hL;clear hL
 go_loopw [13] (fun jv wr=>∃ i:Nat,jv= .int .i64 (i:Int)∧Hid (i=0∨i+L≤wd)∧Hid (Ju B b (Lib.byteCells (l++List.replicate i 48)) wr)∧Below B w wr) (fun jv _=>wd - (intOf jv).toNat)
 case atStart =>
  exact ⟨0,rfl,zh (.inl rfl),zh (by simpa using H.out.later hb1),hb1.mono hB⟩
 case round =>
  obtain ⟨i,rfl,HI,HB,hbr⟩:=hrel
  have hcells:Lib.byteCells (l++List.replicate i 48)++[.int .u8 48]=Lib.byteCells (l++List.replicate (i+1) 48):=by
   rw [List.replicate_succ',← List.append_assoc,Lib.byteCells_append _ [48]];rfl
  by_cases hlt:i+L<wd
  ·go_wp2_with (go_at_call 227;refine (Cq B b _ 48 _ HB.out (by rw [Lib.byteCells_length];simp;omega) (Nat.le_trans hB hbr.size)).mono ?_;rintro e w2 ⟨rfl,h2,hb2⟩;rw [hcells] at h2)
   exact ⟨⟨i+1,by simp,zh (.inr zo),zh (.inr h2),hbr.trans hb2⟩,by simp [intOf];omega⟩
  ·have hi:i=wd - L:=by
    rcases HI.out with h|h
    ·omega
    ·omega
   have hsz:(⟨(Lib.decDigits d).toArray⟩:ByteArray).size=L:=HLe.out;go_wp2_with (go_at_call 228;refine (yC B b _ _ _ HB.out (by rw [Lib.byteCells_length,hsz];simp;omega) (Nat.le_trans hB hbr.size)).mono ?_;rintro e w2 ⟨rfl,h2,hb2⟩)
   go_end0
   refine ⟨rfl,.inr ?_,hbr.trans hb2⟩;rw [HLe.out,← hi,← List.append_assoc,Lib.byteCells_append];exact h2):G:=h
theorem CO (B b d wd:Nat) (l:List UInt8) (w:World) (h:Ju B b (Lib.byteCells l) w) (hB:B≤w.heap.size) (hw:wd≤9) (hd:d<1000000000) (hl:l.length≤140737488355000) (ht:Pow w) :
  Calls Tryz.prog 226 #[Z .u32 d,Z I wd,au (some ⟨b,0,none⟩)] w fun e w'=>e= ah (aF #[])∧Ju B b (Lib.byteCells (l++(bP (wd - (Lib.decDigits d).length) 48++Lib.decDigits d))) w'∧Below B w w':=Vn
def rR (w:World) (n:Nat) (e:Ending) (w':World):Prop:=e= ah (O ⟨(Lib.decDigits n).toArray⟩)∧Below w.heap.size w w'
theorem _root_.Go.Vm {G:Prop} (h:G:=by
 have hd:=eH (B:=1000000000) zo a;have htop:=qU (B:=1000000000) zo a;have hva:=dh (B:=1000000000) zo a;unfold sz at ha
 rcases Nat.eq_zero_or_pos a with h0|h0
 ·subst h0;have H:=zh hx;clear hx;go_enter Rw,Ru
  go_wp2_with ((first|go_at_call 138|go_at_call 170|go_at_call 211);refine (gM _ _ _ H.out).mono ?_;rintro e w1 ⟨rfl,rfl⟩)
  go_ret
  exact ⟨by rw [iC zo];rfl,Below.refl _ _⟩
 ·obtain ⟨p,c,rfl,hc1,hc2,hread⟩:=kP.read hx.xM;generalize hl:fG 1000000000 a=l at *;have hne:l≠[]:=fun e=>by rw [e] at hva;simp [val] at hva;omega
  obtain ⟨n,hn⟩:∃ n,l.length=n+1:=⟨l.length - 1,by have:=List.length_pos_iff.mpr hne;omega⟩;have H:=zh hx;have HR:=zh hread;have HV:=zh hva;have HN:=zh hn;have HL:=zh hl;have HT:=zh ht;rw [hn] at ha hc1 ⊢;have ha0:decide (a=0)=false:=by simp;omega
  clear hx hread hva hl ht hn;obtain ⟨b,off,rfl,hb,hcell⟩:=HR.out n (by have:=HN.out;omega);have hpos:∀ i,i≤n→0<val 1000000000 (l.drop i):=fun i hi=>kS zo (EH htop i) (fun e=>by have:=congrArg List.length e;rw [List.length_drop,HN.out] at this;simp at this;omega)
  have hdl:∀ i,(Lib.decDigits (val 1000000000 (l.drop i))).length≤9*(n+1)+1:=fun i=>by
   have h1:=rO (hd.drop i);rw [List.length_drop,HN.out] at h1;omega
  have HP:=zh hpos;have HDL:=zh hdl;clear hpos hdl
  have hd0:val 1000000000 (l.drop n)=l.getD n 0:=by
   rw [kF (by have:=HN.out;omega),List.drop_eq_nil_of_le (by have:=HN.out;omega)];simp [val]
  have hdb:=hd.getD zo n;generalize hdn:l.getD n 0=dn at *;have HDN:=zh hdn;have HD0:=zh hd0;clear hdn hd0;have hbo:Below w.heap.size w (w.alloc (.cells #[.pointer none,.slice none 0 0] 290 (0,0))):=(Below.refl _ _).alloc (Nat.le_refl _) _;have hcw:(w.alloc (.cells #[.pointer none,.slice none 0 0] 290 (0,0))).cell? ⟨b,off+n,none⟩=some (.int .u32 (dn:Nat)):=(hbo.cell (by exact hb)).trans hcell;have hb0:Ju w.heap.size w.heap.size (Lib.byteCells []) (w.alloc (.cells #[.pointer none,.slice none 0 0] 290 (0,0))):=Lib.fresh_isBuilder _ _ w;have HB0:=zh hb0;clear hb0;go_enter Rw,Ru
  go_wp2_with ((first|go_at_call 138|go_at_call 170|go_at_call 211);refine (gM _ a _ (by rw [← HN.out];exact H.out)).mono ?_;rintro e w1 ⟨rfl,rfl⟩;rw [ha0])
  refine (CO _ _ dn 0 [] _ HB0.out zi zo hdb zi (HT.out.later hbo)).mono ?_;rintro e w2 ⟨rfl,h2,hb2⟩;rw [Nat.zero_sub,List.replicate_zero,List.nil_append,List.nil_append,← HD0.out] at h2;have H2:=zh h2;have hbw2:Below w.heap.size w w2:=hbo.trans hb2;clear h2;go_wp2_with fail
  go_loopw [6] (fun jv wr=>∃ i:Nat,jv= .int .i64 ((i:Int) - 1)∧i≤n∧Hid (Ju w.heap.size w.heap.size (Lib.byteCells (Lib.decDigits (val 1000000000 (l.drop i)))) wr)∧Below w.heap.size w wr) (fun jv _=>(intOf jv+1).toNat)
  case atStart=>exact ⟨n,rfl,Nat.le_refl _,H2,hbw2⟩
  case round =>
   obtain ⟨i,rfl,hi,HB,hbr⟩:=hrel
   rcases Nat.eq_zero_or_pos i with h1|h1
   ·subst h1;rw [List.drop_zero,HV.out] at HB;go_wp2_with fail
    refine (Tryz.Builder_String_any _ _ _ _ HB.out hbr.size).mono ?_;rintro e w3 ⟨rfl,hb3⟩;go_wp2_with fail
    go_ret
    exact ⟨rfl,hbr.trans hb3⟩
   ·obtain ⟨j,rfl⟩:∃ j,i=j+1:=⟨i - 1,by omega⟩;have hj:j<l.length:=by have:=HN.out;omega
    obtain ⟨b',off',e1,hb',hcell'⟩:=HR.out j hj;simp only [Option.some.injEq,Addr.mk.injEq,and_true] at e1;obtain ⟨rfl,rfl⟩:=e1;have hcr:=(hbr.cell (p:=⟨b,off+j,none⟩) (by exact hb)).trans hcell';have hjb:=hd.getD zo j;have HG:=zh (Ca hj hd (HP.out (j+1) hi));generalize hdj:l.getD j 0=dj at *;have HDJ:=zh hdj;clear hdj hcell';go_wp2_with fail
    refine (CO _ _ dj 9 _ _ HB.out hbr.size zo hjb (by have:=HDL.out (j+1);omega) (HT.out.later hbr)).mono ?_;rintro e w3 ⟨rfl,h3,hb3⟩;rw [← HG.out] at h3;have H3:=zh h3;clear h3;go_wp2_with fail
    refine ⟨⟨j,rfl,by omega,H3,hbr.trans hb3⟩,?_⟩;simp only [intOf];omega):G:=h
theorem lV (x:Value) (a:Nat) (w:World) (hx:aT w x a) (ha:sz 1000000000 a≤1099511627776) (ht:Pow w) :
  Calls Tryz.prog 155 #[x] w (rR w a):=Vm
theorem _root_.Go.Vl {G:Prop} (h:G:=by
 have hd:=eH (B:=1000000000) zo a;have htop:=qU (B:=1000000000) zo a;have hva:=dh (B:=1000000000) zo a;unfold sz at ha
 rcases Nat.eq_zero_or_pos a with h0|h0
 ·subst h0;have H:=zh hx;clear hx;rw [iC zo];go_enter Rt,Rs
  go_wp2_with ((first|go_at_call 138|go_at_call 170|go_at_call 211);refine (gM _ _ _ H.out).mono ?_;rintro e w1 ⟨rfl,rfl⟩)
  go_ret
  exact ⟨rfl,Below.refl _ _⟩
 ·obtain ⟨p,c,rfl,hc1,hc2,hread⟩:=kP.read hx.xM;generalize hl:fG 1000000000 a=l at *;have hne:l≠[]:=fun e=>by rw [e] at hva;simp [val] at hva;omega
  obtain ⟨n,hn⟩:∃ n,l.length=n+1:=⟨l.length - 1,by have:=List.length_pos_iff.mpr hne;omega⟩;have hlt:=F9 hn hd htop;have hdb:=hd.getD zo n;have hl9:=lW 9 _ zo hdb;rw [hva] at hlt;rw [hlt];obtain ⟨b,off,rfl,hb,hcell⟩:=hread n zo;have H:=zh hx;have HN:=zh hn;have HT:=zh ht;rw [hn] at ha hc1 ⊢;have ha0:decide (a=0)=false:=by simp;omega
  generalize hdn:l.getD n 0=dn at *;clear hx hread hva hl ht hn hlt hdn;generalize hL:(Lib.decDigits dn).length=L at *;have HL:Hid ((⟨(Lib.decDigits dn).toArray⟩:ByteArray).size=L):=zh hL;clear hL;go_enter Rt,Rs
  go_wp2_with (first
   | ((first|go_at_call 138|go_at_call 170|go_at_call 211);refine (gM _ a _ (by rw [← HN.out];exact H.out)).mono ?_;rintro e w1 ⟨rfl,rfl⟩;rw [ha0])
   | (go_at_call 149;refine (Km dn hdb _ HT.out).mono ?_;rintro e w1 ⟨rfl,hb1⟩;have hq:=HL.out))
  go_ret
  refine ⟨?_,hb1⟩;have e:(((9*n+L:Nat)):Int)=(n:Int)*9+(L:Int):=by omega
  rw [e];rfl):G:=h
theorem gW (x:Value) (a:Nat) (w:World) (hx:aT w x a) (ha:sz 1000000000 a≤1099511627776) (ht:Pow w) :
  Calls Tryz.prog 153 #[x] w (fun e w'=>e= ah (Z I ((Lib.decDigits a).length:Nat))∧Below w.heap.size w w'):=Vl
end Go.Proofs.dw
namespace Go.Proofs.dw
open Go Go.RowKit Go.SW Go.Num Go.Mem Go.Proofs Go.Dec
theorem Pw:(Tryz.prog.info? 22).map (fun i=>(i.zero,i.size,i.bytes))=some (some (.int .u32 0),1,4):=by kernel_rfl
theorem o9 (s:ByteArray) (hs:s.size≤1099511627776) (hd:qG s.data.toList) (w:World) :
  Calls Tryz.prog 222 #[O s] w (fun e w'=>∃ v,e= ah v∧Below w.heap.size w w'∧aT w' v (num s.data.toList)):=zs3
end Go.Proofs.dw
namespace Go.Proofs.dw
open Go Go.RowKit Go.SW Go.Num Go.Mem Go.Proofs
theorem _root_.Go.Vk {G:Prop} (h:G:=by
 obtain ⟨p,c,rfl, -, -, h1⟩:=kP.read h.xM;obtain ⟨p',c',e, -, -, h2⟩:=kP.read k.xM;simp only [Value.slice.injEq] at e;obtain ⟨rfl,hl,rfl⟩:=e
 have:fG 1000000000 m=fG 1000000000 n:=by
  refine List.ext_getElem hl fun i hi hi2=>?_;obtain ⟨b,o,e, -, hc⟩:=h1 i hi;obtain ⟨b',o',e', -, hc'⟩:=h2 i hi2;rw [e] at e';simp only [Option.some.injEq,Addr.mk.injEq,and_true] at e';obtain ⟨rfl,rfl⟩:=e';rw [hc] at hc';simp only [Option.some.injEq,Value.int.injEq,true_and] at hc';rw [List.getD_eq_getElem?_getD,List.getD_eq_getElem?_getD,List.getElem?_eq_getElem hi,List.getElem?_eq_getElem hi2] at hc'
  simpa using Int.ofNat_inj.mp hc'
 rw [← dh (B:=1000000000) zo m,this,dh zo]):G:=h
theorem aT.inj {w:World} {v:Value} {m n:Nat} (h:aT w v m) (k:aT w v n):m=n:=Vk
open Classical in
noncomputable def tJ (w:World) (v:Value):Nat:=if h:∃ n,aT w v n then h.choose else 0
theorem oZ {w:World} {v:Value} {n:Nat} (h:aT w v n):tJ w v=n:=by
 unfold tJ;rw [dif_pos ⟨n,h⟩];exact aT.inj (Exists.choose_spec (⟨n,h⟩:∃ n,aT w v n)) h
theorem _root_.Go.Ze {G:Prop} (h:G:=by
 generalize hG:Nat.gcd a b=G;have HG:=zh hG;have HX:=zh hx;have HY:=zh hy;clear hx hy hG;go_enter Zp,Zo
 go_wp2_with fail
 go_loopw [0,1] (fun vx vy wr=>∃ a b:Nat,Hid (aT wr vx a)∧Hid (aT wr vy b)∧Hid (Nat.gcd a b=G)∧Hid (sz 1000000000 a≤549755813888)∧Hid (sz 1000000000 b≤549755813888)∧Below w.heap.size w wr) (fun _ vy wr=>tJ wr vy)
 case atStart=>exact ⟨a,b,HX,HY,HG,zh ha,zh hb,Below.refl _ _⟩
 case round =>
  obtain ⟨a,b,HX,HY,HG,HA,HB,hbr⟩:=hrel;obtain ⟨p,c,rfl,hc1,hc2,hread⟩:=kP.read HX.out.xM;obtain ⟨p',c',rfl,hc1',hc2',Dc⟩:=kP.read HY.out.xM;clear hread Dc
  have HLA:=zh (show ((fG 1000000000 a).length:Int)≤2→a≤18446744073709551615 from fun h=>by
   have h1:=jO (B:=1000000000) zo a;have h2:(1000000000:Nat)^sz 1000000000 a≤1000000000^2:=Nat.pow_le_pow_right zo (by unfold sz;omega);omega)
  have HLB:=zh (show ((fG 1000000000 b).length:Int)≤2→b≤18446744073709551615 from fun h=>by
   have h1:=jO (B:=1000000000) zo b;have h2:(1000000000:Nat)^sz 1000000000 b≤1000000000^2:=Nat.pow_le_pow_right zo (by unfold sz;omega);omega)
  rcases Nat.eq_zero_or_pos b with h0|h0
  ·subst h0;rw [Nat.gcd_zero_right] at HG;go_wp2_with ((first|go_at_call 138|go_at_call 211);refine (gM _ 0 _ HY.out).mono ?_;rintro e w1 ⟨rfl,rfl⟩)
   go_ret
   exact ⟨_,rfl,hbr,by rw [← HG.out];exact HX.out⟩
  ·have hb0:decide (b=0)=false:=by simp;omega
   go_wp2_with ((first|go_at_call 138|go_at_call 211);refine (gM _ b _ HY.out).mono ?_;rintro e w1 ⟨rfl,rfl⟩;rw [hb0])
   ·refine (yO _ a _ HX.out (HLA.out (by assumption))).mono ?_;rintro e w' ⟨rfl,rfl⟩;go_wp2_with fail
    refine (yO _ b _ HY.out (HLB.out (by assumption))).mono ?_;rintro e w' ⟨rfl,rfl⟩;have hla:=HLA.out (by assumption);have hlb:=HLB.out (by assumption);go_wp2_with fail
    go_loopw [5,6] (fun v5 v6 wi=>∃ c d:Nat,v5= .int .u64 (c:Int)∧v6= .int .u64 (d:Int)∧c≤18446744073709551615∧d≤18446744073709551615∧Hid (Nat.gcd c d=G)∧Below w.heap.size w wi) (fun _ v6 _=>(intOf v6).toNat)
    case atStart=>exact ⟨a,b,rfl,rfl,hla,hlb,HG,hbr⟩
    case round =>
     obtain ⟨c,d,rfl,rfl,hc,hd,HG2,hbi⟩:=hrel
     rcases Nat.eq_zero_or_pos d with h1|h1
     ·subst h1;rw [Nat.gcd_zero_right] at HG2;go_wp2_with fail
      refine (jP c _ hc).mono ?_;rintro e w3 ⟨v3,rfl,hb3,hv3⟩;have HV3:=zh hv3;clear hv3;go_wp2_with fail
      go_ret
      exact ⟨_,rfl,Bt hbi hb3,by rw [← HG2.out];exact HV3.out⟩
     ·have hcd:((c%d:Nat):Int)=(c:Int)%(d:Int):=Int.natCast_emod _ _;have hlt:c%d<d:=Nat.mod_lt _ h1;go_wp2_with fail
      go_quiet (fail)
      go_wp2_with fail
      refine ⟨⟨d,c%d,rfl,by rw [hcd],hd,by omega,zh ?_,below_drewN hbi _⟩,?_⟩
      ·rw [← HG2.out,Nat.gcd_comm d,← Nat.gcd_rec,Nat.gcd_comm]
      ·rw [← hcd];simp only [intOf];omega
   all_goals
    refine (dG _ _ a b _ HX.out HY.out h0 HA.out).mono ?_;rintro e w2 ⟨vq,vr,rfl,hb2,hq,hr⟩;have HR:=zh hr;clear hq hr;go_wp2_with fail
    refine ⟨⟨b,a%b,zh (HY.out.later hb2),HR,zh ?_,HB,zh (Nat.le_trans (jK zo (Nat.mod_le _ _)) HA.out),Bt hbr hb2⟩,?_⟩
    ·rw [← HG.out,Nat.gcd_comm b,← Nat.gcd_rec,Nat.gcd_comm]
    ·rw [oZ HR.out,oZ HY.out];exact Nat.mod_lt _ h0):G:=h
theorem mV (x y:Value) (a b:Nat) (w:World) (hx:aT w x a) (hy:aT w y b) (ha:sz 1000000000 a≤549755813888) (hb:sz 1000000000 b≤549755813888) :
  Calls Tryz.prog 91 #[x,y] w (fun e w'=>∃ v,e= ah v∧Below w.heap.size w w'∧aT w' v (Nat.gcd a b)):=Ze
end Go.Proofs.dw
namespace Go.Proofs.dw
open Go Go.RowKit Go.SW Go.Num Go.Mem Go.Proofs Go.Dec
theorem _root_.Go.Vj {G:Prop} (h:G:=by
 obtain ⟨BM,lH,Ce,rfl⟩:=h.slice;have H:=zh h;clear h;cases b
 all_goals
  go_enter VD,VB
  go_wp2_with ((first|go_at_call 138|go_at_call 170|go_at_call 211);refine (gM _ n _ aK).mono ?_;rintro e w1 ⟨rfl,rfl⟩)
  refine iX rfl rfl aY Co rfl zk ?_;refine ⟨_,rfl,aO,bW.mk aK (jg n _).symm ?_⟩;rw [← RQ];rfl):G:=h
theorem dM (m:Value) (n:Nat) (b:Bool) (w:World) (h:aT w m n) :
  Calls Tryz.prog 93 #[m,aC b] w (fun e w'=>∃ v,e= ah v∧Below w.heap.size w w'∧bW w' v (iZ n b)):=Vj
theorem _root_.Go.Zd {G:Prop} (h:G:=by
 have HC:=zh (whole.qp ⟨(Lib.itoa z).toArray⟩);have e1:(⟨(Lib.itoa z).toArray⟩:ByteArray).data.toList=Lib.itoa z:=rfl;rw [e1,Gb] at HC;have HG:=zh (fun w=>o9 ⟨(Lib.decDigits z.natAbs).toArray⟩ (Nat.le_trans hz zo) (lg _) w);have e2:(⟨(Lib.decDigits z.natAbs).toArray⟩:ByteArray).data.toList=Lib.decDigits z.natAbs:=rfl;rw [e2,mo] at HG;clear hz;unfold dX;go_enter Zn,Zm
 go_wp2_with (first
  | (go_at_call 221;refine (HC.out _).mono ?_;rintro e w1 ⟨rfl,rfl⟩)
  | ((first|go_at_call 222|go_at_call 265);refine (HG.out _).mono ?_;rintro e w2 ⟨v,rfl,hb2,hv⟩;obtain ⟨Fv,UJ,Gv,rfl⟩:=hv.slice;have HV:=zh hv;clear hv;have BR:=aA.later (aA.new _ _ _) hb2;have bR:=BR.cell;have bQ:=BR.free))
 refine iX rfl rfl aY Co rfl zk ?_;exact ⟨_,rfl,aO,bW.dx aK⟩):G:=h
theorem gU (z:Int) (hz:(Lib.decDigits z.natAbs).length≤600) (w:World) :
  Calls Tryz.prog 147 #[dX z] w (fun e w'=>∃ v,e= ah v∧Below w.heap.size w w'∧bW w' v z):=Zd
theorem wJ (v:Value) (z:Int) (w:World) (h:bW w v z) :
  Calls Tryz.prog 152 #[v] w (fun e w'=>∃ v,e= ah v∧Below w.heap.size w w'∧bW w' v (-z)):=by
 obtain ⟨BM,lH,Ce,rfl,H⟩:=h;replace H:=zh H;go_enter Tryz.func152,Tryz.ntmps152
 go_wp2_with (go_at_call 93;refine (dM _ _ _ _ aK).mono ?_;rintro e w1 ⟨v,rfl,hb1,hv⟩;obtain ⟨av0,lH1,az8,rfl,H1⟩:=hv;replace H1:=zh H1;have BR:=aA.later (aA.nX _ _ _ _) hb1;have bR:=BR.cell;have bQ:=BR.free)
 refine iX rfl rfl aY Tryz.underlying86 rfl zk ?_;exact ⟨_,rfl,aO,(bW.dx aK).cast (RP z)⟩
theorem _root_.Go.Zc {G:Prop} (h:G:=by
 obtain ⟨BM,lH,Ce,rfl,H⟩:=h;replace H:=zh H;obtain ⟨au5,lHU,az3,rfl⟩:=hu.slice;have HU:=zh hu;clear hu;have HN:=zh hn;have HZ:=zh hz;clear hn hz;go_enter Zl,Zk
 go_wp2_with fail
 refine aQ [(.pure,0),(.read,1),(.pure,2),(.pure,4),(.read,5),(.ext,3),(.ext,6),(.fin,7)] zk zk zR zP ?_;refine zV ?_;refine aN rfl rfl (fun w1 hb1 J hJ=>?_);go_simp;have BR:=aA.later (aA.drew (aA.nX _ _ _ _)) hb1;have bR:=BR.cell;have bQ:=BR.free;refine (iE _ _ _ _ _ aK aK (Nat.le_trans HZ.out zo) (Nat.le_trans HN.out zo)).mono ?_;rintro e w2 ⟨v,rfl,hb2,hv⟩;obtain ⟨Fv,UJ,Gv,rfl⟩:=hv.slice;have HV:=zh hv;clear hv;replace BR:=aA.later (BR) hb2;replace bR:=BR.cell;replace bQ:=BR.free;refine hJ _ _ hb2 ?_;clear hJ J;refine aN rfl rfl (fun w3 hb3 J hJ=>?_);go_simp;replace BR:=aA.later (BR) hb3;replace bR:=BR.cell;replace bQ:=BR.free;refine (dM _ (z.natAbs*n) _ _ aK).mono ?_;rintro e w4 ⟨v,rfl,hb4,hv⟩;obtain ⟨au8,lH4,az6,rfl,H4⟩:=hv;replace H4:=zh H4;replace BR:=aA.later (BR) hb4;replace bR:=BR.cell;replace bQ:=BR.free
 refine hJ _ _ hb4 ?_;clear hJ J;refine bT [_] rfl (fun w5 hb5=>?_);replace BR:=aA.later (BR) hb5;replace bR:=BR.cell;replace bQ:=BR.free;go_wp2_with fail
 refine iX rfl rfl aY Co rfl zk ?_;exact ⟨_,rfl,aO,(bW.dx aK).cast (RS z n)⟩):G:=h
theorem lU (v u:Value) (z:Int) (n:Nat) (w:World) (h:bW w v z) (hu:aT w u n) (hz:sz 1000000000 z.natAbs≤549755813888) (hn:sz 1000000000 n≤549755813888) :
  Calls Tryz.prog 150 #[v,u] w (fun e w'=>∃ v,e= ah v∧Below w.heap.size w w'∧bW w' v (z*n)):=Zc
end Go.Proofs.dw
