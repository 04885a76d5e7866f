/- Lemmas for the proof. No condition. -/
import Derived.Test.YtneajphgfdlmhaaGreatDoorRB01
import Derived.Test.YtneajphgfdlmhaaGreatDoorRB02
import Derived.Test.YtneajphgfdlmhaaGreatDoorRB05
import Derived.Laws.CopyOwn
import Derived.WalkMore
set_option linter.unusedVariables false
set_option linter.unusedSimpArgs false
set_option maxRecDepth 100000
set_option maxHeartbeats 16000000
namespace Go.Proofs.fM
open Go Go.RowKit Go.SW Go.Num Go.Mem Go.Proofs
def qA (w:World) (q r:Nat) (e:Ending) (w':World):Prop:=∃ vq vr,e= .returned (.tuple #[vq,vr])∧Below w.heap.size w w'∧aT w' vq q∧aT w' vr r
theorem _root_.Go.aN8 {G:Prop} (h:G:=by
 have HX:=zh hx;have hs:=ug h;rw [Nat.div_eq_of_lt h,Nat.mod_eq_of_lt h];have HC:=zh (lF x y a b w hx hy);rw [hs] at HC;clear hx hs hy h;go_enter ai9,ai8
 go_wp2_with ((first|go_at_call 223|go_at_call 317);refine (HC.out).mono ?_;rintro e w1 ⟨rfl,hb1⟩)
 go_ret2
 exact ⟨_,_,rfl,hb1,aT.zero _,HX.out.later hb1⟩):G:=h
theorem CW (x y:Value) (a b:Nat) (w:World) (hx:aT w x a) (hy:aT w y b) (h:a<b) :
  Calls Tryz.prog 143 #[x,y] w (qA w (a / b) (a%b)):=aN8
theorem _root_.Go.aN7 {G:Prop} (h:G:=by
 have hs:yF a b=0∨yF a b=1:=by
  rcases Nat.lt_or_ge b a with h2|h2
  ·exact .inr (rY h2)
  ·have:a=b:=by omega
   subst this;exact .inl (vD a)
 have hdb:eO 1000000000 b=[b]:=by rw [nG zo hb0,Nat.mod_eq_of_lt hb1,Nat.div_eq_of_lt hb1,jk]
 obtain ⟨p,c,e1, -, -, e3⟩:=pO.read hy.DX;rw [hdb] at e1 e3;simp only [List.length_cons,List.length_nil,Value.slice.injEq] at e1;obtain ⟨rfl, -, rfl⟩:=e1;obtain ⟨b2,off,rfl,hb2,hcell⟩:=e3 0 zi;have hcell2:w.cell? ⟨b2,off,none⟩=some (.int .u32 (b:Int)):=by simpa using hcell
 have HC:=zh (lF _ _ a b w hx hy);have HX:=zh hx;clear hdb hcell e3 hx hy;have hmod:a%b<1000000000:=Nat.lt_trans (Nat.mod_lt _ hb0) hb1
 rcases hs with hs|hs
 all_goals
  rw [hs] at HC;clear hs;go_enter ai9,ai8
  go_wp2_with ((first|go_at_call 223|go_at_call 317);refine (HC.out).mono ?_;rintro e w1 ⟨rfl,Tz⟩;have hc1:w1.cell? ⟨b2,off,none⟩=some (.int .u32 (b:Int)):=(Tz.cell (by exact hb2)).trans hcell2)
  refine (zD _ a b _ (HX.out.later Tz) zo hb0 zo).mono ?_;rintro e w2 ⟨v,rfl,Tx,hv⟩;have HV:=zh hv;clear hv;generalize hm:a%b=m at *;have HM:=zh hm;clear hm;go_wp2_with fail
  refine (pF m _ zo).mono ?_;rintro e w3 ⟨v3,rfl,bf8,hv3⟩;have HV3:=zh hv3;clear hv3;go_wp2_with fail
  go_ret2
  exact ⟨_,_,rfl,Bt (Bt Tz Tx) bf8,HV.out.later bf8,HV3.out⟩):G:=h
theorem Ag (pa pb:Option Addr) (ca cb:Nat) (a b:Nat) (w:World) (hx:aT w (.slice pa (sz 1000000000 a) ca) a) (hy:aT w (.slice pb 1 cb) b) (hb0:0<b) (hb1:b<1000000000) (h:b≤a) (ha:sz 1000000000 a≤549755813888) :
  Calls Tryz.prog 143 #[.slice pa (sz 1000000000 a) ca,.slice pb 1 cb] w (qA w (a / b) (a%b)):=aN7
theorem _root_.Go.aN6 {G:Prop} (h:G:=by
 obtain ⟨i0,hi,hz0,hz1,hz2⟩:=info_parts CG
 have hs:yF a b=0∨yF a b=1:=by
  rcases Nat.lt_or_ge b a with h2|h2
  ·exact .inr (rY h2)
  ·have:a=b:=by omega
   subst this;exact .inl (vD a)
 have hb0:0<b:=by
  rcases Nat.eq_zero_or_pos b with h0|h0
  ·rw [h0,DI] at hsb;omega
  ·exact h0
 have hkl:k+2≤sz 1000000000 a:=by rw [← hsb];exact jO zo h
 obtain ⟨ht0,htB,hs0,hs5,hsv,htv⟩:=OQ hsb;obtain ⟨hd1,hd2,hd3,hd4,hd5⟩:=dividend (a:=a) hs0 zo hsb hkl;obtain ⟨p,c,e1, -, -, e3⟩:=pO.read hy.DX;have hlb:(eO 1000000000 b).length=k+2:=hsb;rw [hlb] at e1 e3;simp only [Value.slice.injEq] at e1;obtain ⟨rfl, -, rfl⟩:=e1;obtain ⟨b2,off,rfl,hb2,hcell⟩:=e3 (k+1) zo;have HC:=zh (lF _ _ a b w hx hy);have HX:=zh hx;have HY:=zh hy;have HSV:=zh hsv;have HTV:=zh htv;have HD4:=zh hd4;have HD5:=zh hd5;have HD2:=zh hd2;have HSB:=zh hsb;clear e3 hx hy hsv htv hd4 hd5 hd2 hsb hlb;have htop:=HSB.out;generalize hT:(eO 1000000000 b).getD (k+1) 0=t at *;clear hT htop;have hdiv:((1000000000 / (t+1):Nat):Int)=1000000000 / ((t:Int)+1):=by rw [Int.natCast_ediv];rfl
 have hsc1:(0:Int)≤1000000000 / ((t:Int)+1):=by rw [← hdiv];exact Int.natCast_nonneg _
 generalize hS:1000000000 / (t+1)=S at *;have hsc2:1000000000 / ((t:Int)+1)≤500000000:=by rw [← hdiv];omega
 have LA:=zh hdiv;have HSq:=zh hS;clear hdiv hS;generalize hus:eO 1000000000 (a*S)++List.replicate (sz 1000000000 a+1 - sz 1000000000 (a*S)) 0=us at *;have HUS:=zh hus;clear hus;generalize hL:sz 1000000000 a=L at *;have HL:=zh hL;clear hL
 rcases hs with hs|hs
 all_goals
  rw [hs] at HC;clear hs;go_enter ai9,ai8
  go_wp2_with ((first|go_at_call 223|go_at_call 317);refine (HC.out).mono ?_;rintro e w1 ⟨rfl,Tz⟩;have hc1:w1.cell? ⟨b2,off+(k+1),none⟩=some (.int .u32 (t:Int)):=(Tz.cell (by exact hb2)).trans hcell)
  rw [← LA.out];refine (lW _ _ b S _ ((HY.out.later Tz).later ((Below.refl _ _).alloc (Nat.le_refl _) _)) (aT.lit hs0 zo) (by rw [HSB.out];omega) (by have:=bH (B:=1000000000) zo 1 S zo;omega)).mono ?_;rintro e w2 ⟨vv,rfl,Tx,hv⟩;have hbw2:Below w.heap.size w w2:=Bt (Bt Tz ((Below.refl _ _).alloc (Nat.le_refl _) _)) Tx;obtain ⟨pv,cv,rfl,hv1,hv2,hv3⟩:=pO.read hv.DX;have HVR:=zh hv3;have hvl:(eO 1000000000 (b*S)).length=k+2:=HSV.out;rw [hvl] at hv1 ⊢;have HVL:=zh hvl;clear hv hv3 hvl hc1 Tx;go_wp2_with (at_make;refine wpList_make_full _ rfl _ _ Ow rfl w2.heap.size 61 i0 (.int .u32 0) 1 Rh hi hz0 hz1 _ _ _ _ (L+1) rfl rfl zo zo (by rw [hz2];omega) (by unfold maxLen;omega) (Nat.le_refl _) ?_)
  intro w3 hown3 hgrow3;rw [uP] at hown3;have bf6:=zh (wY hown3).1;have aD6:Below w2.heap.size w2 w3:=(Below.refl _ _).grown hgrow3 (Nat.le_refl _) (fun k h=>by cases h);clear hown3 hgrow3;go_wp2_with fail
  refine (lW _ _ a S _ ((HX.out.later (Bt hbw2 aD6)).later ((Below.refl _ _).alloc (Nat.le_refl _) _)) (aT.lit hs0 zo) (by rw [HL.out];omega) (by have:=bH (B:=1000000000) zo 1 S zo;omega)).mono ?_;rintro e w4 ⟨vt,rfl,bf7,hvt⟩;obtain ⟨pt,ct,rfl,ht1,ht2,ht3⟩:=pO.read hvt.DX;have aD5:Below w3.heap.size w3 w4:=Bt ((Below.refl _ _).alloc (Nat.le_refl _) _) bf7;have bf5:=zh (bf6.out.later aD5);have bg3:=Bt aD6 aD5;have HTS:=zh (fun h=>pO.src ht3 h);clear hvt ht3 bf7 bf6
  go_wp2_with (refine wpList_copy_splice (o:=⟨some 54,_,_,_,_,_⟩) rfl (.tmp 49) (.tmp 53) Ow Ow rfl 61 Rh (by rw [hi];simp [hz1]) _ _ _ _ _ _ rfl rfl w2.heap.size 0 (eX (List.replicate (L+1) 0)) 61 bf5.out (eX (eO 1000000000 (a*S))) (by rw [gM];exact (Nat.min_eq_left hd1).symm) (fun h=>⟨rfl,HTS.out h⟩) (by rw [Nat.zero_add,gM,gM,List.length_replicate];exact hd1) (Mf _) w2.heap.size w2 bg3 (Nat.le_refl _) ?_)
  intro w5 bf4 bg2
  have ac6:Hid (ah w5 w2.heap.size (eX us).toArray 61):=by
   have h1:=bf4.out;unfold splice at h1
   have e:List.take 0 (eX (List.replicate (L+1) 0))++(eX (eO 1000000000 (a*S))++List.drop (0+(eX (eO 1000000000 (a*S))).length) (eX (List.replicate (L+1) 0)))=eX us:=by
    rw [← HUS.out];unfold eX sz;simp
   rw [e] at h1;exact h1
  have hg5:w2.heap.size<w5.heap.size:=ah.lt ac6.out;clear bf4 bf5 HTS;go_wp2_with (at_make;refine wpList_make_full _ rfl _ _ Ow rfl w5.heap.size 61 i0 (.int .u32 0) 1 Rh hi hz0 hz1 _ _ _ _ (L - (k+2)+1) rfl rfl zo zo (by rw [hz2];omega) (by unfold maxLen;omega) (Nat.le_refl _) ?_)
  intro w6 hown6 ac3;rw [uP] at hown6;have bf9:=zh (wY hown6).1;have aD4:Below w5.heap.size w5 w6:=(Below.refl _ _).grown ac3 (Nat.le_refl _) (fun k h=>by cases h);have bg0:=zh (ac6.out.later aD4);have bg1:Below w2.heap.size w2 w6:=bg2.trans (aD4.mono (Nat.le_of_lt hg5));clear hown6 ac3 ac6 aD4;go_wp2_with fail
  go_loopw [12] (fun jv wr=>∃ (q:Int) (s qs:List Nat), -1≤q∧q≤(L:Int) - ((k:Int)+2)∧jv= .int .i64 q∧Hid (s.length=k+2)∧iM 1000000000 s∧iM 1000000000 qs∧Hid (qs.length+(q+1).toNat=L - (k+2)+1) ∧
    Hid (ah wr w2.heap.size (eX (us.take (q+1).toNat++(s++List.replicate (L+1 - (q+1).toNat - (k+2)) 0))).toArray 61)∧Hid (ah wr w5.heap.size (eX (List.replicate (q+1).toNat 0++qs)).toArray 61) ∧
    Hid (val 1000000000 (us.drop (q+1).toNat)=b*S*val 1000000000 qs+val 1000000000 s)∧Hid (val 1000000000 s<b*S)∧Below w2.heap.size w2 wr) (fun jv _=>(intOf jv+1).toNat)
  case atStart =>
   have e:((L:Int) - ((k:Int)+2)+1).toNat=L - (k+2)+1:=by omega
   refine ⟨(L:Int) - ((k:Int)+2),us.drop (L - (k+2)+1),[],by omega,Int.le_refl _,rfl,zh (by rw [List.length_drop,HD2.out];omega),hd3.drop _,iM.nil,zh (by rw [e];simp),zh ?_,zh ?_,zh (by rw [e];simp [val]),HD5,bg1⟩
   ·rw [e,show L+1 - (L - (k+2)+1) - (k+2)=0 by omega,List.replicate_zero,List.append_nil,List.take_append_drop];exact bg0.out
   ·rw [e,List.append_nil];exact bf9.out
  case round =>
   clear bg0 bf9 bg1 bg2 bg3 aD6 aD5;obtain ⟨q,s,qs,hq1,hq2,rfl,HSL,hds,Ou,HQL,HBG,HBH,HVE,bj9,hbr⟩:=hrel
   by_cases hq:q<0
   ·have hq0:q= -1:=by omega
    subst hq0;have e0:((-1:Int)+1).toNat=0:=by omega
    rw [e0] at HBG HBH HVE HQL;simp only [List.take_zero,List.nil_append,List.replicate_zero,List.drop_zero,Nat.add_zero,Nat.sub_zero] at HBG HBH HVE HQL;have HE:=zh (ZM hs0 (by rw [← HD4.out];exact HVE.out) bj9.out);have hbw:Below w.heap.size w wr:=Bt hbw2 hbr;have hDu:=zh (pO.yK (n:=k+2) (m:=L+1) HBG.out HSL.out zo zo);have hDq:=zh (pO.yK (n:=L - (k+2)+1) (m:=L - (k+2)+1) (post:=[]) (by rw [List.append_nil];exact HBH.out) HQL.out zo zo);have hle:val 1000000000 s / S≤b:=by rw [HE.out.2];exact Nat.le_of_lt (Nat.mod_lt _ hb0)
    have hsz:sz 1000000000 (val 1000000000 s)≤k+2:=bH zo _ _ (by have:=jL (by omega:0<1000000000) hds;rwa [HSL.out] at this);go_wp2_with fail
    refine (tJ _ _ _ hDu.out hds).mono ?_;rintro e w' ⟨v1,rfl,rfl,hv1⟩;go_wp2_with fail
    refine (zD _ _ S _ hv1 zo hs0 zo).mono ?_;rintro e w7 ⟨v2,rfl,qZ,hv2⟩;have Rp:=zh hv2;clear hv2;go_wp2_with fail
    refine (tJ _ _ _ (hDq.out.later qZ) Ou).mono ?_;rintro e w' ⟨v3,rfl,rfl,hv3⟩;have HV3:=zh hv3;clear hv3;go_wp2_with fail
    go_ret2
    exact ⟨v3,v2,rfl,Bt hbw qZ,by rw [← HE.out.1];exact HV3.out,by rw [← HE.out.2];exact Rp.out⟩
   ·obtain ⟨j,rfl⟩:=Int.eq_ofNat_of_zero_le (by omega:0≤q);have ej:((j:Int)+1).toNat=j+1:=by omega
    rw [ej] at HBG HBH HVE HQL;have hjl:j<us.length:=by rw [HD2.out];omega
    go_wp2_with fail
    rw [show j+(k+2)+1 - j=k+3 by omega];have hux:us.getD j 0<1000000000:=hd3.getD zo j;have e1:us.take (j+1)++(s++List.replicate (L+1 - (j+1) - (k+2)) 0)=us.take j++(us.getD j 0::s)++List.replicate (L+1 - (j+1) - (k+2)) 0:=by rw [mY hjl];simp
    rw [e1] at HBG;have HW:=zh (WJ hux bj9.out);refine (Cw w2.heap.size j k (L+1 - j) pv cv (us.take j) (us.getD j 0::s) (List.replicate (L+1 - (j+1) - (k+2)) 0) (eO 1000000000 (b*S)) wr (by rw [List.length_take];omega) (by simp [HSL.out]) HVL.out (hds.cons hux) (bg zo _) zo HTV.out (by rw [aR zo];exact HW.out) HBG.out (fun i hi=>?_)).mono ?_
    ·obtain ⟨b',off',e1,h1,h2⟩:=HVR.out i (by rw [HVL.out];exact hi);exact ⟨b',off',e1,Nat.ne_of_lt h1,Nat.lt_of_lt_of_le h1 hbr.size,(hbr.cell (by exact h1)).trans h2⟩
    ·rintro e wx ⟨rfl,ax6,s',hB',bc6,br7,aC1⟩;rw [aR zo] at aC1 ⊢;have HB':=zh hB';have bk6:=zh aC1;have by4:=zh bc6;have hbx:Below w2.heap.size w2 wx:=Ke hbr ax6 hbr.size (Nat.le_refl _);have hBx:ah wx w5.heap.size (eX (List.replicate (j+1) 0++qs)).toArray 61:=(ax6.block _ (ah.lt HBH.out) (by simp;omega)).trans HBH.out;have uX:=zh hBx;clear hB' aC1 bc6 hBx;generalize hqh:val 1000000000 (us.getD j 0::s) / (b*S)=qh at *;have HQH:=zh hqh;clear hqh
     have HQ0:wx.cell? ⟨w5.heap.size,j,none⟩=some (.int .u32 0):=by
      rw [uX.out.cell,List.getElem?_toArray,qC (by simp;omega),xC zo];rfl
     have HQF:wx.frozen? ⟨w5.heap.size,j,none⟩=false:=uX.out.free _;go_wp2_with fail
     have hbs:0<b*S:=Nat.mul_pos hb0 hs0;have hqd:qh<1000000000:=by rw [← HQH.out];exact Nat.div_lt_of_lt_mul HW.out
     have ej2:((j:Int) - 1+1).toNat=j:=by omega
     have hbo:((⟨w5.heap.size,j,none⟩:Addr).block)=w5.heap.size:=rfl;refine ⟨⟨(j:Int) - 1,s',qh::qs,by omega,by omega,rfl,by4,br7,Ou.cons hqd,zh ?_,zh ?_,zh ?_,zh ?_,zh ?_,?_⟩,?_⟩
     ·rw [ej2,List.length_cons];have:=HQL.out;omega
     ·have h1:=HB'.out.setOther (a:=⟨w5.heap.size,j,none⟩) (.int .u32 (qh:Int)) (by simp;omega);rw [ej2]
      have e2:us.take j++(s'++[0])++List.replicate (L+1 - (j+1) - (k+2)) 0=us.take j++(s'++List.replicate (L+1 - j - (k+2)) 0):=by
       rw [show L+1 - j - (k+2)=(L+1 - (j+1) - (k+2))+1 by omega,List.replicate_succ];simp
      rw [e2] at h1;exact h1
     ·have h1:=uX.out.set j (.int .u32 (qh:Int));rw [List.setIfInBounds_toArray,nS,zG] at h1;rw [ej2];exact h1
     ·rw [ej2];exact Xo hjl HVE.out HQH.out.symm bk6.out
     ·rw [bk6.out];exact Nat.mod_lt _ hbs
     ·exact hbx.setCell (by simp;omega) _
     ·simp only [intOf];omega):G:=h
theorem CV (pa pb:Option Addr) (ca cb:Nat) (a b k:Nat) (w:World) (hx:aT w (.slice pa (sz 1000000000 a) ca) a) (hy:aT w (.slice pb (k+2) cb) b) (hsb:sz 1000000000 b=k+2) (h:b≤a) (ha:sz 1000000000 a≤549755813888) :
  Calls Tryz.prog 143 #[.slice pa (sz 1000000000 a) ca,.slice pb (k+2) cb] w (qA w (a / b) (a%b)):=aN6
theorem _root_.Go.aN5 {G:Prop} (h:G:=by
 rcases Nat.lt_or_ge a b with h|h
 ·exact CW x y a b w hx hy h
 ·obtain ⟨p,c,e1, -, -, -⟩:=pO.read hx.DX;obtain ⟨q,d,e2, -, -, -⟩:=pO.read hy.DX
  have hp:sz 1000000000 b≠0:=fun h0=>by
   have:=(qI (B:=1000000000) zo (n:=b)).mp (List.length_eq_zero_iff.mp h0);omega
  have e3:(eO 1000000000 b).length=sz 1000000000 b:=rfl;rw [e3] at e2;subst e1
  rcases Nat.lt_or_ge (sz 1000000000 b) 2 with h2|h2
  ·have h1:sz 1000000000 b=1:=by omega
   rw [h1] at e2;subst e2;have:=ku (B:=1000000000) zo b;rw [h1] at this;exact Ag p q c d a b w hx hy hb zo h ha
  ·obtain ⟨k,hk⟩:∃ k,sz 1000000000 b=k+2:=⟨sz 1000000000 b - 2,by omega⟩;rw [hk] at e2;subst e2;exact CV p q c d a b k w hx hy hk h ha):G:=h
theorem ji (x y:Value) (a b:Nat) (w:World) (hx:aT w x a) (hy:aT w y b) (hb:0<b) (ha:sz 1000000000 a≤549755813888) :
  Calls Tryz.prog 143 #[x,y] w (qA w (a / b) (a%b)):=aN5
end Go.Proofs.fM
namespace Go.Proofs.fM
open Go Go.RowKit Go.SW Go.Num Go.Mem Go.Proofs Go.Proofs.jw Go.Dec
theorem _root_.Go.aN4 {G:Prop} (h:G:=by
 have hlen:=nZ 9 d zo hd;have H:=zh h;have HT:=zh ht;clear h ht;go_enter aP6,aP5
 go_wp2_with (go_at_call 249;refine (Vx d hd _ HT.out).mono ?_;rintro e w1 ⟨rfl,hb1⟩)
 have HL:=zh hlen;generalize hL:(Lib.decDigits d).length=L at *;have HLe:=zh hL;clear hL
 go_loopw [13] (fun jv wr=>∃ i:Nat,jv= .int .i64 (i:Int)∧Hid (i=0∨i+L≤wd)∧Hid (Yl B b (Lib.byteCells (l++List.replicate i 48)) wr)∧Below B w wr) (fun jv _=>wd - (intOf jv).toNat)
 case atStart =>
  exact ⟨0,rfl,zh (.inl rfl),zh (by simpa using H.out.later hb1),hb1.mono hB⟩
 case round =>
  obtain ⟨i,rfl,HI,HB,hbr⟩:=hrel
  have hcells:Lib.byteCells (l++List.replicate i 48)++[.int .u8 48]=Lib.byteCells (l++List.replicate (i+1) 48):=by
   rw [List.replicate_succ',← List.append_assoc,Lib.byteCells_append _ [48]];rfl
  by_cases hlt:i+L<wd
  ·go_wp2_with (go_at_call 270;refine (LH B b _ 48 _ HB.out (by rw [Lib.byteCells_length];simp;omega) (Nat.le_trans hB hbr.size)).mono ?_;rintro e w2 ⟨rfl,h2,hb2⟩;rw [hcells] at h2)
   exact ⟨⟨i+1,by simp,zh (.inr zo),zh (.inr h2),hbr.trans hb2⟩,by simp [intOf];omega⟩
  ·have hi:i=wd - L:=by
    rcases HI.out with h|h
    ·omega
    ·omega
   have hsz:(⟨(Lib.decDigits d).toArray⟩:ByteArray).size=L:=HLe.out;go_wp2_with (go_at_call 271;refine (Fh B b _ _ _ HB.out (by rw [Lib.byteCells_length,hsz];simp;omega) (Nat.le_trans hB hbr.size)).mono ?_;rintro e w2 ⟨rfl,h2,hb2⟩)
   go_end0
   refine ⟨rfl,.inr ?_,hbr.trans hb2⟩;rw [HLe.out,← hi,← List.append_assoc,Lib.byteCells_append];exact h2):G:=h
theorem Si (B b d wd:Nat) (l:List UInt8) (w:World) (h:Yl B b (Lib.byteCells l) w) (hB:B≤w.heap.size) (hw:wd≤9) (hd:d<1000000000) (hl:l.length≤140737488355000) (ht:Pow w) :
  Calls Tryz.prog 269 #[.int .u32 d,.int .i64 wd,.pointer (some ⟨b,0,none⟩)] w fun e w'=>e= .returned (.tuple #[])∧Yl B b (Lib.byteCells (l++(List.replicate (wd - (Lib.decDigits d).length) 48++Lib.decDigits d))) w'∧Below B w w':=aN4
def Jl (w:World) (n:Nat) (e:Ending) (w':World):Prop:=e= .returned (.string ⟨(Lib.decDigits n).toArray⟩)∧Below w.heap.size w w'
theorem _root_.Go.aN3 {G:Prop} (h:G:=by
 have hd:=bg (B:=1000000000) zo a;have htop:=qD (B:=1000000000) zo a;have hva:=aR (B:=1000000000) zo a;unfold sz at ha
 rcases Nat.eq_zero_or_pos a with h0|h0
 ·subst h0;have H:=zh hx;clear hx;go_enter ay8,ay7
  go_wp2_with ((first|go_at_call 201|go_at_call 295);refine (jH _ _ _ H.out).mono ?_;rintro e w1 ⟨rfl,rfl⟩)
  go_ret
  exact ⟨by rw [jJ zo];rfl,Below.refl _ _⟩
 ·obtain ⟨p,c,rfl,hc1,hc2,hread⟩:=pO.read hx.DX;generalize hl:eO 1000000000 a=l at *;have hne:l≠[]:=fun e=>by rw [e] at hva;simp [val] at hva;omega
  obtain ⟨n,hn⟩:∃ n,l.length=n+1:=⟨l.length - 1,by have:=List.length_pos_iff.mpr hne;omega⟩;have H:=zh hx;have HR:=zh hread;have HV:=zh hva;have HN:=zh hn;have HL:=zh hl;have HT:=zh ht;rw [hn] at ha hc1 ⊢;have ha0:decide (a=0)=false:=by simp;omega
  clear hx hread hva hl ht hn;obtain ⟨b,off,rfl,hb,hcell⟩:=HR.out n (by have:=HN.out;omega);have hpos:∀ i,i≤n→0<val 1000000000 (l.drop i):=fun i hi=>jS zo (Gb htop i) (fun e=>by have:=congrArg List.length e;rw [List.length_drop,HN.out] at this;simp at this;omega)
  have hdl:∀ i,(Lib.decDigits (val 1000000000 (l.drop i))).length≤9*(n+1)+1:=fun i=>by
   have h1:=wT (hd.drop i);rw [List.length_drop,HN.out] at h1;omega
  have HP:=zh hpos;have HDL:=zh hdl;clear hpos hdl
  have hd0:val 1000000000 (l.drop n)=l.getD n 0:=by
   rw [kP (by have:=HN.out;omega),List.drop_eq_nil_of_le (by have:=HN.out;omega)];simp [val]
  have hdb:=hd.getD zo n;generalize hdn:l.getD n 0=dn at *;have HDN:=zh hdn;have HD0:=zh hd0;clear hdn hd0;have hbo:Below w.heap.size w (w.alloc (.cells #[.pointer none,.slice none 0 0] 277 (0,0))):=(Below.refl _ _).alloc (Nat.le_refl _) _;have hcw:(w.alloc (.cells #[.pointer none,.slice none 0 0] 277 (0,0))).cell? ⟨b,off+n,none⟩=some (.int .u32 (dn:Nat)):=(hbo.cell (by exact hb)).trans hcell;have hb0:Yl w.heap.size w.heap.size (Lib.byteCells []) (w.alloc (.cells #[.pointer none,.slice none 0 0] 277 (0,0))):=Lib.fresh_isBuilder _ _ w;have HB0:=zh hb0;clear hb0;go_enter ay8,ay7
  go_wp2_with ((first|go_at_call 201|go_at_call 295);refine (jH _ a _ (by rw [← HN.out];exact H.out)).mono ?_;rintro e w1 ⟨rfl,rfl⟩;rw [ha0])
  refine (Si _ _ dn 0 [] _ HB0.out zi zo hdb zi (HT.out.later hbo)).mono ?_;rintro e w2 ⟨rfl,h2,hb2⟩;rw [Nat.zero_sub,List.replicate_zero,List.nil_append,List.nil_append,← HD0.out] at h2;have H2:=zh h2;have hbw2:Below w.heap.size w w2:=hbo.trans hb2;clear h2;go_wp2_with fail
  go_loopw [6] (fun jv wr=>∃ i:Nat,jv= .int .i64 ((i:Int) - 1)∧i≤n∧Hid (Yl w.heap.size w.heap.size (Lib.byteCells (Lib.decDigits (val 1000000000 (l.drop i)))) wr)∧Below w.heap.size w wr) (fun jv _=>(intOf jv+1).toNat)
  case atStart=>exact ⟨n,rfl,Nat.le_refl _,H2,hbw2⟩
  case round =>
   obtain ⟨i,rfl,hi,HB,hbr⟩:=hrel
   rcases Nat.eq_zero_or_pos i with h1|h1
   ·subst h1;rw [List.drop_zero,HV.out] at HB;go_wp2_with fail
    refine (Tryz.Builder_String_any _ _ _ _ HB.out hbr.size).mono ?_;rintro e w3 ⟨rfl,hb3⟩;go_wp2_with fail
    go_ret
    exact ⟨rfl,hbr.trans hb3⟩
   ·obtain ⟨j,rfl⟩:∃ j,i=j+1:=⟨i - 1,by omega⟩;have hj:j<l.length:=by have:=HN.out;omega
    obtain ⟨b',off',e1,hb',hcell'⟩:=HR.out j hj;simp only [Option.some.injEq,Addr.mk.injEq,and_true] at e1;obtain ⟨rfl,rfl⟩:=e1;have hcr:=(hbr.cell (p:=⟨b,off+j,none⟩) (by exact hb)).trans hcell';have hjb:=hd.getD zo j;have HG:=zh (Lr hj hd (HP.out (j+1) hi));generalize hdj:l.getD j 0=dj at *;have HDJ:=zh hdj;clear hdj hcell';go_wp2_with fail
    refine (Si _ _ dj 9 _ _ HB.out hbr.size zo hjb (by have:=HDL.out (j+1);omega) (HT.out.later hbr)).mono ?_;rintro e w3 ⟨rfl,h3,hb3⟩;rw [← HG.out] at h3;have H3:=zh h3;clear h3;go_wp2_with fail
    refine ⟨⟨j,rfl,by omega,H3,hbr.trans hb3⟩,?_⟩;simp only [intOf];omega):G:=h
theorem uV (x:Value) (a:Nat) (w:World) (hx:aT w x a) (ha:sz 1000000000 a≤1099511627776) (ht:Pow w) :
  Calls Tryz.prog 220 #[x] w (Jl w a):=aN3
theorem _root_.Go.aN2 {G:Prop} (h:G:=by
 have hd:=bg (B:=1000000000) zo a;have htop:=qD (B:=1000000000) zo a;have hva:=aR (B:=1000000000) zo a;unfold sz at ha
 rcases Nat.eq_zero_or_pos a with h0|h0
 ·subst h0;have H:=zh hx;clear hx;rw [jJ zo];go_enter ay6,ay5
  go_wp2_with ((first|go_at_call 201|go_at_call 295);refine (jH _ _ _ H.out).mono ?_;rintro e w1 ⟨rfl,rfl⟩)
  go_ret
  exact ⟨rfl,Below.refl _ _⟩
 ·obtain ⟨p,c,rfl,hc1,hc2,hread⟩:=pO.read hx.DX;generalize hl:eO 1000000000 a=l at *;have hne:l≠[]:=fun e=>by rw [e] at hva;simp [val] at hva;omega
  obtain ⟨n,hn⟩:∃ n,l.length=n+1:=⟨l.length - 1,by have:=List.length_pos_iff.mpr hne;omega⟩;have hlt:=Qh hn hd htop;have hdb:=hd.getD zo n;have hl9:=nZ 9 _ zo hdb;rw [hva] at hlt;rw [hlt];obtain ⟨b,off,rfl,hb,hcell⟩:=hread n zo;have H:=zh hx;have HN:=zh hn;have HT:=zh ht;rw [hn] at ha hc1 ⊢;have ha0:decide (a=0)=false:=by simp;omega
  generalize hdn:l.getD n 0=dn at *;clear hx hread hva hl ht hn hlt hdn;generalize hL:(Lib.decDigits dn).length=L at *;have HL:Hid ((⟨(Lib.decDigits dn).toArray⟩:ByteArray).size=L):=zh hL;clear hL;go_enter ay6,ay5
  go_wp2_with (first
   | ((first|go_at_call 201|go_at_call 295);refine (jH _ a _ (by rw [← HN.out];exact H.out)).mono ?_;rintro e w1 ⟨rfl,rfl⟩;rw [ha0])
   | (go_at_call 249;refine (Vx dn hdb _ HT.out).mono ?_;rintro e w1 ⟨rfl,hb1⟩;have hq:=HL.out))
  go_ret
  refine ⟨?_,hb1⟩;have e:(((9*n+L:Nat)):Int)=(n:Int)*9+(L:Int):=by omega
  rw [e];rfl):G:=h
theorem oG (x:Value) (a:Nat) (w:World) (hx:aT w x a) (ha:sz 1000000000 a≤1099511627776) (ht:Pow w) :
  Calls Tryz.prog 219 #[x] w (fun e w'=>e= .returned (.int .i64 ((Lib.decDigits a).length:Nat))∧Below w.heap.size w w'):=aN2
end Go.Proofs.fM
namespace Go.Proofs.fM
open Go Go.RowKit Go.SW Go.Num Go.Mem Go.Proofs Go.Dec
theorem ax1:(Tryz.prog.info? 61).map (fun i=>(i.zero,i.size,i.bytes))=some (some (.int .u32 0),1,4):=by kernel_rfl
theorem xD (s:ByteArray) (hs:s.size≤1099511627776) (hd:wC s.data.toList) (w:World) :
  Calls Tryz.prog 274 #[.string s] w (fun e w'=>∃ v,e= .returned v∧Below w.heap.size w w'∧aT w' v (num s.data.toList)):=zs3
end Go.Proofs.fM
namespace Go.Proofs.fM
open Go Go.RowKit Go.SW Go.Num Go.Mem Go.Proofs
theorem _root_.Go.aN1 {G:Prop} (h:G:=by
 obtain ⟨p,c,rfl, -, -, h1⟩:=pO.read h.DX;obtain ⟨p',c',e, -, -, h2⟩:=pO.read k.DX;simp only [Value.slice.injEq] at e;obtain ⟨rfl,hl,rfl⟩:=e
 have:eO 1000000000 m=eO 1000000000 n:=by
  refine List.ext_getElem hl fun i hi hi2=>?_;obtain ⟨b,o,e, -, hc⟩:=h1 i hi;obtain ⟨b',o',e', -, hc'⟩:=h2 i hi2;rw [e] at e';simp only [Option.some.injEq,Addr.mk.injEq,and_true] at e';obtain ⟨rfl,rfl⟩:=e';rw [hc] at hc';simp only [Option.some.injEq,Value.int.injEq,true_and] at hc';rw [List.getD_eq_getElem?_getD,List.getD_eq_getElem?_getD,List.getElem?_eq_getElem hi,List.getElem?_eq_getElem hi2] at hc'
  simpa using Int.ofNat_inj.mp hc'
 rw [← aR (B:=1000000000) zo m,this,aR zo]):G:=h
theorem aT.inj {w:World} {v:Value} {m n:Nat} (h:aT w v m) (k:aT w v n):m=n:=aN1
open Classical in
noncomputable def He (w:World) (v:Value):Nat:=if h:∃ n,aT w v n then h.choose else 0
theorem wK {w:World} {v:Value} {n:Nat} (h:aT w v n):He w v=n:=by
 unfold He;rw [dif_pos ⟨n,h⟩];exact aT.inj (Exists.choose_spec (⟨n,h⟩:∃ n,aT w v n)) h
theorem _root_.Go.aN0 {G:Prop} (h:G:=by
 generalize hG:Nat.gcd a b=G;have HG:=zh hG;have HX:=zh hx;have HY:=zh hy;clear hx hy hG;go_enter aP4,aP3
 go_wp2_with fail
 go_loopw [0,1] (fun vx vy wr=>∃ a b:Nat,Hid (aT wr vx a)∧Hid (aT wr vy b)∧Hid (Nat.gcd a b=G)∧Hid (sz 1000000000 a≤549755813888)∧Hid (sz 1000000000 b≤549755813888)∧Below w.heap.size w wr) (fun _ vy wr=>He wr vy)
 case atStart=>exact ⟨a,b,HX,HY,HG,zh ha,zh hb,Below.refl _ _⟩
 case round =>
  obtain ⟨a,b,HX,HY,HG,HA,HB,hbr⟩:=hrel;obtain ⟨p,c,rfl,hc1,hc2,hread⟩:=pO.read HX.out.DX;obtain ⟨p',c',rfl,hc1',hc2',aC2⟩:=pO.read HY.out.DX;clear hread aC2
  have HLA:=zh (show ((eO 1000000000 a).length:Int)≤2→a≤18446744073709551615 from fun h=>by
   have h1:=ku (B:=1000000000) zo a;have h2:(1000000000:Nat)^sz 1000000000 a≤1000000000^2:=Nat.pow_le_pow_right zo (by unfold sz;omega);omega)
  have HLB:=zh (show ((eO 1000000000 b).length:Int)≤2→b≤18446744073709551615 from fun h=>by
   have h1:=ku (B:=1000000000) zo b;have h2:(1000000000:Nat)^sz 1000000000 b≤1000000000^2:=Nat.pow_le_pow_right zo (by unfold sz;omega);omega)
  rcases Nat.eq_zero_or_pos b with h0|h0
  ·subst h0;rw [Nat.gcd_zero_right] at HG;go_wp2_with ((first|go_at_call 201|go_at_call 295);refine (jH _ 0 _ HY.out).mono ?_;rintro e w1 ⟨rfl,rfl⟩)
   go_ret
   exact ⟨_,rfl,hbr,by rw [← HG.out];exact HX.out⟩
  ·have hb0:decide (b=0)=false:=by simp;omega
   go_wp2_with ((first|go_at_call 201|go_at_call 295);refine (jH _ b _ HY.out).mono ?_;rintro e w1 ⟨rfl,rfl⟩;rw [hb0])
   ·refine (Gi _ a _ HX.out (HLA.out (by assumption))).mono ?_;rintro e w' ⟨rfl,rfl⟩;go_wp2_with fail
    refine (Gi _ b _ HY.out (HLB.out (by assumption))).mono ?_;rintro e w' ⟨rfl,rfl⟩;have hla:=HLA.out (by assumption);have hlb:=HLB.out (by assumption);go_wp2_with fail
    go_loopw [5,6] (fun v5 v6 wi=>∃ c d:Nat,v5= .int .u64 (c:Int)∧v6= .int .u64 (d:Int)∧c≤18446744073709551615∧d≤18446744073709551615∧Hid (Nat.gcd c d=G)∧Below w.heap.size w wi) (fun _ v6 _=>(intOf v6).toNat)
    case atStart=>exact ⟨a,b,rfl,rfl,hla,hlb,HG,hbr⟩
    case round =>
     obtain ⟨c,d,rfl,rfl,hc,hd,HG2,hbi⟩:=hrel
     rcases Nat.eq_zero_or_pos d with h1|h1
     ·subst h1;rw [Nat.gcd_zero_right] at HG2;go_wp2_with fail
      refine (pF c _ hc).mono ?_;rintro e w3 ⟨v3,rfl,hb3,hv3⟩;have HV3:=zh hv3;clear hv3;go_wp2_with fail
      go_ret
      exact ⟨_,rfl,Bt hbi hb3,by rw [← HG2.out];exact HV3.out⟩
     ·have hcd:((c%d:Nat):Int)=(c:Int)%(d:Int):=Int.natCast_emod _ _;have hlt:c%d<d:=Nat.mod_lt _ h1;go_wp2_with fail
      go_quiet (fail)
      go_wp2_with fail
      refine ⟨⟨d,c%d,rfl,by rw [hcd],hd,by omega,zh ?_,below_drewN hbi _⟩,?_⟩
      ·rw [← HG2.out,Nat.gcd_comm d,← Nat.gcd_rec,Nat.gcd_comm]
      ·rw [← hcd];simp only [intOf];omega
   all_goals
    refine (ji _ _ a b _ HX.out HY.out h0 HA.out).mono ?_;rintro e w2 ⟨vq,vr,rfl,hb2,hq,hr⟩;have HR:=zh hr;clear hq hr;go_wp2_with fail
    refine ⟨⟨b,a%b,zh (HY.out.later hb2),HR,zh ?_,HB,zh (Nat.le_trans (jO zo (Nat.mod_le _ _)) HA.out),Bt hbr hb2⟩,?_⟩
    ·rw [← HG.out,Nat.gcd_comm b,← Nat.gcd_rec,Nat.gcd_comm]
    ·rw [wK HR.out,wK HY.out];exact Nat.mod_lt _ h0):G:=h
theorem wQ (x y:Value) (a b:Nat) (w:World) (hx:aT w x a) (hy:aT w y b) (ha:sz 1000000000 a≤549755813888) (hb:sz 1000000000 b≤549755813888) :
  Calls Tryz.prog 142 #[x,y] w (fun e w'=>∃ v,e= .returned v∧Below w.heap.size w w'∧aT w' v (Nat.gcd a b)):=aN0
end Go.Proofs.fM
namespace Go.Proofs.fM
open Go Go.RowKit Go.SW Go.Num Go.Mem Go.Proofs Go.Dec
theorem _root_.Go.aM9 {G:Prop} (h:G:=by
 obtain ⟨Po,lH,Qp,rfl⟩:=h.slice;have H:=zh h;clear h;cases b
 all_goals
  go_enter aP2,aP1
  go_wp2_with ((first|go_at_call 201|go_at_call 295);refine (jH _ n _ aI).mono ?_;rintro e w1 ⟨rfl,rfl⟩)
  refine dG rfl rfl aH WI rfl zk ?_;refine ⟨_,rfl,au,gN.mk aI (nu n _).symm ?_⟩;rw [← Vh];rfl):G:=h
theorem iy (m:Value) (n:Nat) (b:Bool) (w:World) (h:aT w m n) :
  Calls Tryz.prog 144 #[m,.bool b] w (fun e w'=>∃ v,e= .returned v∧Below w.heap.size w w'∧gN w' v (kM n b)):=aM9
theorem mE (z:Int) (hz:(Lib.decDigits z.natAbs).length≤600) (w:World) :
  Calls Tryz.prog 222 #[dP z] w (fun e w'=>∃ v,e= .returned v∧Below w.heap.size w w'∧gN w' v z):=by
 have HC:=zh (whole.vK ⟨(Lib.itoa z).toArray⟩);have e1:(⟨(Lib.itoa z).toArray⟩:ByteArray).data.toList=Lib.itoa z:=rfl;rw [e1,Qj] at HC;have HG:=zh (fun w=>xD ⟨(Lib.decDigits z.natAbs).toArray⟩ (Nat.le_trans hz zo) (pI _) w);have e2:(⟨(Lib.decDigits z.natAbs).toArray⟩:ByteArray).data.toList=Lib.decDigits z.natAbs:=rfl;rw [e2,qy] at HG;clear hz;unfold dP;go_enter Tryz.func222,Tryz.ntmps222
 go_wp2_with (first
  | (go_at_call 273;refine (HC.out _).mono ?_;rintro e w1 ⟨rfl,rfl⟩)
  | (go_at_call 274;refine (HG.out _).mono ?_;rintro e w2 ⟨v,rfl,hb2,hv⟩;obtain ⟨bp0,lHV,bt9,rfl⟩:=hv.slice;have HV:=zh hv;clear hv;have BR:=ah.later (ah.new _ _ _) hb2;have bQ:=BR.cell;have bL:=BR.free))
 refine dG rfl rfl aH Tryz.underlying106 rfl zk ?_;exact ⟨_,rfl,au,gN.iL aI⟩
theorem _root_.Go.aM8 {G:Prop} (h:G:=by
 obtain ⟨Po,lH,Qp,rfl,H⟩:=h;replace H:=zh H;go_enter aP0,aO9
 go_wp2_with ((first|go_at_call 144|go_at_call 256);refine (iy _ _ _ _ aI).mono ?_;rintro e w1 ⟨v,rfl,hb1,hv⟩;obtain ⟨bL6,lH1,bR1,rfl,H1⟩:=hv;replace H1:=zh H1;have BR:=ah.later (ah.qN _ _ _ _) hb1;have bQ:=BR.cell;have bL:=BR.free)
 refine dG rfl rfl aH WI rfl zk ?_;exact ⟨_,rfl,au,(gN.iL aI).cast (Vg z)⟩):G:=h
theorem wJ (v:Value) (z:Int) (w:World) (h:gN w v z) :
  Calls Tryz.prog 148 #[v] w (fun e w'=>∃ v,e= .returned v∧Below w.heap.size w w'∧gN w' v (-z)):=aM8
theorem uL (v u:Value) (z:Int) (n:Nat) (w:World) (h:gN w v z) (hu:aT w u n) (hz:sz 1000000000 z.natAbs≤549755813888) (hn:sz 1000000000 n≤549755813888) :
  Calls Tryz.prog 146 #[v,u] w (fun e w'=>∃ v,e= .returned v∧Below w.heap.size w w'∧gN w' v (z*n)):=by
 obtain ⟨Po,lH,Qp,rfl,H⟩:=h;replace H:=zh H;obtain ⟨bL0,lHU,bQ5,rfl⟩:=hu.slice;have HU:=zh hu;clear hu;have HN:=zh hn;have HZ:=zh hz;clear hn hz;go_enter Tryz.func146,Tryz.ntmps146
 go_wp2_with fail
 refine aC [(.pure,0),(.read,1),(.pure,2),(.pure,4),(.read,5),(.ext,3),(.ext,6),(.fin,7)] zk zk zR zP ?_;refine zV ?_;refine aL rfl rfl (fun w1 hb1 J hJ=>?_);go_simp;have BR:=ah.later (ah.drew (ah.qN _ _ _ _)) hb1;have bQ:=BR.cell;have bL:=BR.free;refine (lW _ _ _ _ _ aI aI (Nat.le_trans HZ.out zo) (Nat.le_trans HN.out zo)).mono ?_;rintro e w2 ⟨v,rfl,hb2,hv⟩;obtain ⟨bp0,lHV,bt9,rfl⟩:=hv.slice;have HV:=zh hv;clear hv;replace BR:=ah.later (BR) hb2;replace bQ:=BR.cell;replace bL:=BR.free;refine hJ _ _ hb2 ?_;clear hJ J;refine aL rfl rfl (fun w3 hb3 J hJ=>?_);go_simp;replace BR:=ah.later (BR) hb3;replace bQ:=BR.cell;replace bL:=BR.free;refine (iy _ (z.natAbs*n) _ _ aI).mono ?_;rintro e w4 ⟨v,rfl,hb4,hv⟩;obtain ⟨bL4,lH4,bQ9,rfl,H4⟩:=hv;replace H4:=zh H4;replace BR:=ah.later (BR) hb4;replace bQ:=BR.cell;replace bL:=BR.free
 refine hJ _ _ hb4 ?_;clear hJ J;refine dK [_] rfl (fun w5 hb5=>?_);replace BR:=ah.later (BR) hb5;replace bQ:=BR.cell;replace bL:=BR.free;go_wp2_with fail
 refine dG rfl rfl aH Tryz.underlying106 rfl zk ?_;exact ⟨_,rfl,au,(gN.iL aI).cast (ak4 z n)⟩
theorem _root_.Go.aM7 {G:Prop} (h:G:=by
 have H:=zh h;have H2:=zh h2;have KZ:=zh kz;have KY:=zh ky;have HE:=zh (ak6 hz hy);clear h h2 kz ky hz hy;cases b
 all_goals
  go_enter ai7,ai6
  go_wp2_with fail
  refine aC [(.pure,0),(.read,1),(.pure,2),(.read,3),(.pure,5),(.read,6),(.ext,4),(.ext,7),(.fin,8)] zk zk zR zP ?_;refine zV ?_;refine aL rfl rfl (fun w1 hb1 J hJ=>?_);go_simp;have BR:=ah.later (ah.drew (ah.at2 _ _ _ _ _)) hb1;have bQ:=BR.cell;have bL:=BR.free;refine (DK _ _ z.natAbs y.natAbs _ aI aI (Nat.le_trans KZ.out zo) (Nat.le_trans KY.out zo)).mono ?_;rintro e v1 ⟨v,rfl,hc1,hv⟩;obtain ⟨aA5,lHS,aH4,rfl⟩:=hv.slice;have HS:=zh hv;clear hv;replace BR:=ah.later (BR) hc1;replace bQ:=BR.cell;replace bL:=BR.free;refine hJ _ _ hc1 ?_;clear hJ J;refine aL rfl rfl (fun w2 hb2 J hJ=>?_);go_simp;replace BR:=ah.later (BR) hb2;replace bQ:=BR.cell;replace bL:=BR.free;refine (iy _ (z.natAbs+y.natAbs) _ _ aI).mono ?_;rintro e v2 ⟨v,rfl,hc2,hv⟩;obtain ⟨aA4,lHT,aH3,rfl,HT⟩:=hv;replace HT:=zh HT
  replace BR:=ah.later (BR) hc2;replace bQ:=BR.cell;replace bL:=BR.free;refine hJ _ _ hc2 ?_;clear hJ J;refine dK [_] rfl (fun w5 hb5=>?_);replace BR:=ah.later (BR) hb5;replace bQ:=BR.cell;replace bL:=BR.free;go_wp2_with fail
  refine dG rfl rfl aH WI rfl zk ?_;exact ⟨_,rfl,au,(gN.iL aI).cast HE.out⟩):G:=h
theorem OH (pa pb:Option Addr) (l m ca cb:Nat) (z y:Int) (b:Bool) (w:World) (h:aT w (.slice pa l ca) z.natAbs) (h2:aT w (.slice pb m cb) y.natAbs) (hz:decide (z<0)=b) (hy:decide (y<0)=b) (kz:sz 1000000000 z.natAbs≤549755813888) (ky:sz 1000000000 y.natAbs≤549755813888) :
  Calls Tryz.prog 147 #[.agg #[.slice pa l ca,.bool b],.agg #[.slice pb m cb,.bool b]] w (fun e w'=>∃ v,e= .returned v∧Below w.heap.size w w'∧gN w' v (z+y)):=aM7
theorem _root_.Go.aM6 {G:Prop} (h:G:=by
 have H:=zh h;have H2:=zh h2;have KZ:=zh kz;have KY:=zh ky
 rcases Nat.lt_or_ge z.natAbs y.natAbs with hlt|hge
 ·have HE:Hid (kM (y.natAbs - z.natAbs) (!b)=z+y):=by
   have:=Vf (z:=y) (y:=z) (b:= !b) hy (by rw [hz,Bool.not_not]);rw [if_pos zo] at this;exact this.trans (Int.add_comm _ _)
  have HC:=zh (ug hlt);have HL:=zh hlt;clear h h2 kz ky hz hy hlt;cases b
  all_goals
   go_enter ai7,ai6
   go_wp2_with fail
   refine ((lF _ _ z.natAbs y.natAbs _ aI aI).mono (by rw [HC.out];exact fun _ _ h=>h)).mono ?_;rintro e v1 ⟨rfl,hc1⟩;have BR:=ah.later (ah.at2 _ _ _ _ _) hc1;have bQ:=BR.cell;have bL:=BR.free;have B1:=ah.later (ah.alloc (ah.qN _ _ _ _) _) hc1;have cB1:=B1.cell;have uG:=B1.free;have B0:=ah.later (ah.alloc (ah.alloc (ah.new _ _ _) _) _) hc1;have cB0:=B0.cell;have nE:=B0.free;go_wp2_with fail
   refine aC [(.pure,0),(.read,1),(.pure,2),(.read,3),(.pure,5),(.read,6),(.ext,4),(.ext,7),(.fin,8)] zk zk zR zP ?_;refine zV ?_;refine aL rfl rfl (fun w2 hb2 J hJ=>?_);go_simp;replace BR:=ah.later (ah.drew BR) hb2;replace bQ:=BR.cell;replace bL:=BR.free;refine (GU _ _ y.natAbs z.natAbs _ aI aI (Nat.le_trans KY.out zo) (Nat.le_of_lt HL.out)).mono ?_;rintro e v2 ⟨v,rfl,hc2,hv⟩;obtain ⟨aW9,lHD,bh5,rfl⟩:=hv.slice;have HD:=zh hv;clear hv;replace BR:=ah.later (BR) hc2;replace bQ:=BR.cell;replace bL:=BR.free;refine hJ _ _ hc2 ?_;clear hJ J;refine aL rfl rfl (fun w3 hb3 J hJ=>?_);go_simp;replace BR:=ah.later (BR) hb3;replace bQ:=BR.cell;replace bL:=BR.free;refine (iy _ (y.natAbs - z.natAbs) _ _ aI).mono ?_;rintro e v3 ⟨v,rfl,hc3,hv⟩;obtain ⟨aA4,lHT,aH3,rfl,HT⟩:=hv;replace HT:=zh HT
   replace BR:=ah.later (BR) hc3;replace bQ:=BR.cell;replace bL:=BR.free;refine hJ _ _ hc3 ?_;clear hJ J;refine dK [_] rfl (fun w5 hb5=>?_);replace BR:=ah.later (BR) hb5;replace bQ:=BR.cell;replace bL:=BR.free;go_wp2_with fail
   refine dG rfl rfl aH WI rfl zk ?_;exact ⟨_,rfl,au,(gN.iL aI).cast HE.out⟩
 ·have HE:Hid (kM (z.natAbs - y.natAbs) b=z+y):=by
   have:=Vf (z:=z) (y:=y) (b:=b) hz hy;rw [if_pos zo] at this;exact this
  have hs:yF z.natAbs y.natAbs=0∨yF z.natAbs y.natAbs=1:=by
   rcases Nat.lt_or_ge y.natAbs z.natAbs with h2|h2
   ·exact .inr (rY h2)
   ·have:z.natAbs=y.natAbs:=by omega
    rw [this];exact .inl (vD _)
  have HL:=zh hge;clear h h2 kz ky hz hy hge
  rcases hs with hs|hs<;>cases b
  all_goals
   have HC:=zh hs;clear hs;go_enter ai7,ai6
   go_wp2_with fail
   refine ((lF _ _ z.natAbs y.natAbs _ aI aI).mono (by rw [HC.out];exact fun _ _ h=>h)).mono ?_;rintro e v1 ⟨rfl,hc1⟩;have BR:=ah.later (ah.at2 _ _ _ _ _) hc1;have bQ:=BR.cell;have bL:=BR.free;have B1:=ah.later (ah.alloc (ah.qN _ _ _ _) _) hc1;have cB1:=B1.cell;have uG:=B1.free;have B0:=ah.later (ah.alloc (ah.alloc (ah.new _ _ _) _) _) hc1;have cB0:=B0.cell;have nE:=B0.free;go_wp2_with fail
   refine aC [(.pure,0),(.read,1),(.pure,2),(.read,3),(.pure,5),(.read,6),(.ext,4),(.ext,7),(.fin,8)] zk zk zR zP ?_;refine zV ?_;refine aL rfl rfl (fun w2 hb2 J hJ=>?_);go_simp;replace BR:=ah.later (ah.drew BR) hb2;replace bQ:=BR.cell;replace bL:=BR.free;refine (GU _ _ z.natAbs y.natAbs _ aI aI (Nat.le_trans KZ.out zo) HL.out).mono ?_;rintro e v2 ⟨v,rfl,hc2,hv⟩;obtain ⟨aW9,lHD,bh5,rfl⟩:=hv.slice;have HD:=zh hv;clear hv;replace BR:=ah.later (BR) hc2;replace bQ:=BR.cell;replace bL:=BR.free;refine hJ _ _ hc2 ?_;clear hJ J;refine aL rfl rfl (fun w3 hb3 J hJ=>?_);go_simp;replace BR:=ah.later (BR) hb3;replace bQ:=BR.cell;replace bL:=BR.free;refine (iy _ (z.natAbs - y.natAbs) _ _ aI).mono ?_;rintro e v3 ⟨v,rfl,hc3,hv⟩;obtain ⟨aA4,lHT,aH3,rfl,HT⟩:=hv;replace HT:=zh HT
   replace BR:=ah.later (BR) hc3;replace bQ:=BR.cell;replace bL:=BR.free;refine hJ _ _ hc3 ?_;clear hJ J;refine dK [_] rfl (fun w5 hb5=>?_);replace BR:=ah.later (BR) hb5;replace bQ:=BR.cell;replace bL:=BR.free;go_wp2_with fail
   refine dG rfl rfl aH WI rfl zk ?_;exact ⟨_,rfl,au,(gN.iL aI).cast HE.out⟩):G:=h
theorem OI (pa pb:Option Addr) (l m ca cb:Nat) (z y:Int) (b:Bool) (w:World) (h:aT w (.slice pa l ca) z.natAbs) (h2:aT w (.slice pb m cb) y.natAbs) (hz:decide (z<0)=b) (hy:decide (y<0)= !b) (kz:sz 1000000000 z.natAbs≤549755813888) (ky:sz 1000000000 y.natAbs≤549755813888) :
  Calls Tryz.prog 147 #[.agg #[.slice pa l ca,.bool b],.agg #[.slice pb m cb,.bool !b]] w (fun e w'=>∃ v,e= .returned v∧Below w.heap.size w w'∧gN w' v (z+y)):=aM6
theorem _root_.Go.aM5 {G:Prop} (h:G:=by
 obtain ⟨pa,l,ca,rfl,hm⟩:=h;obtain ⟨pb,m,cb,rfl,hm2⟩:=h2
 by_cases hb:decide (z<0)=decide (y<0)
 ·rw [hb];exact OH pa pb l m ca cb z y (decide (y<0)) w hm hm2 hb rfl kz ky
 ·have hb2:decide (y<0)= !decide (z<0):=by
   cases h1:decide (z<0)<;>cases h2:decide (y<0)<;>simp_all
  rw [hb2];exact OI pa pb l m ca cb z y (decide (z<0)) w hm hm2 rfl hb2 kz ky):G:=h
theorem Bj (v u:Value) (z y:Int) (w:World) (h:gN w v z) (h2:gN w u y) (kz:sz 1000000000 z.natAbs≤549755813888) (ky:sz 1000000000 y.natAbs≤549755813888) :
  Calls Tryz.prog 147 #[v,u] w (fun e w'=>∃ v,e= .returned v∧Below w.heap.size w w'∧gN w' v (z+y)):=aM5
theorem UZ (v:Value) (z:Int) (w:World) (h:gN w v z) (kz:sz 1000000000 z.natAbs≤1099511627776) (ht:jw.Pow w) :
  Calls Tryz.prog 191 #[v] w (fun e w'=>e= .returned (dP z)∧Below w.heap.size w w'):=by
 obtain ⟨pa,l,ca,rfl,hm⟩:=h
 have hlen:((1+(Lib.decDigits z.natAbs).length:Nat):Int)≤9223372036854775807:=by
  have h1:=wT (bg (B:=1000000000) zo z.natAbs);rw [aR zo] at h1;unfold sz at kz;omega
 have ax8:¬ 9223372036854775807<1+(Lib.decDigits z.natAbs).length:=by omega
 have H:=zh hm;have KZ:=zh kz;have HT:=zh ht;clear hm kz ht hlen
 by_cases hz:z<0
 ·have e:dP z= .string ⟨(45::Lib.decDigits z.natAbs).toArray⟩:=by unfold dP Lib.itoa;rw [if_pos hz]
  rw [e,decide_eq_true hz];clear e hz;go_enter Tryz.func191,Tryz.ntmps191
  go_wp2_with fail
  refine (uV _ z.natAbs _ aI KZ.out (HT.out.later au)).mono ?_;rintro e v1 ⟨rfl,hc1⟩;go_wp2_with fail
  go_ret
  exact ⟨rfl,au⟩
 ·have e:dP z= .string ⟨(Lib.decDigits z.natAbs).toArray⟩:=by unfold dP Lib.itoa;rw [if_neg hz,show z.toNat=z.natAbs by omega]
  rw [e,decide_eq_false hz];clear e hz;go_enter Tryz.func191,Tryz.ntmps191
  go_wp2_with fail
  refine (uV _ z.natAbs _ aI KZ.out (HT.out.later au)).mono ?_;rintro e v1 ⟨rfl,hc1⟩;go_wp2_with fail
  go_ret
  exact ⟨rfl,au⟩
end Go.Proofs.fM
namespace Go.Proofs.fM
open Go Go.RowKit Go.SW Go.Num Go.Mem Go.Proofs Go.Dec Go.jQ
theorem zC (v:Value) (z:Int) (w:World) (h:gN w v z) :
  Calls Tryz.prog 149 #[v] w (fun e w'=>e= .returned (.int .i64 (yE z))∧Below w.heap.size w w'):=by
 obtain ⟨Po,lH,Qp,rfl,H⟩:=h;replace H:=zh H
 rcases Int.lt_trichotomy z 0 with hz|hz|hz
 ·have e:yE z= -1:=by unfold yE;rw [if_neg zo,if_pos hz]
  rw [e,decide_eq_true hz];have h0:decide (z.natAbs=0)=false:=by simp;omega
  go_enter Tryz.func149,Tryz.ntmps149
  go_wp2_with (go_at_call 201;refine (jH _ z.natAbs _ aI).mono ?_;rintro e w1 ⟨rfl,rfl⟩;rw [h0])
  go_ret
  exact ⟨rfl,au⟩
 ·subst hz;go_enter Tryz.func149,Tryz.ntmps149
  go_wp2_with (go_at_call 201;refine (jH _ (Int.natAbs 0) _ aI).mono ?_;rintro e w1 ⟨rfl,rfl⟩)
  go_ret
  exact ⟨rfl,au⟩
 ·have e:yE z=1:=by unfold yE;rw [if_neg zo,if_neg zo]
  rw [e,decide_eq_false (show ¬ z<0 by omega)];have h0:decide (z.natAbs=0)=false:=by simp;omega
  go_enter Tryz.func149,Tryz.ntmps149
  go_wp2_with (go_at_call 201;refine (jH _ z.natAbs _ aI).mono ?_;rintro e w1 ⟨rfl,rfl⟩;rw [h0])
  go_ret
  exact ⟨rfl,au⟩
theorem Gz (x y:Value) (p q:Rat) (w:World) (hx:jc w x p) (hy:jc w y q) (kp:wG 1000000 p) (kq:wG 1000000 q) :
  Calls Tryz.prog 66 #[x,y] w (fun e w'=>e= .returned (.int .i64 (og p q))∧Below w.heap.size w w'):=by
 obtain ⟨Po,lH,Qp,pbH,mH,cbH,rfl,H,Hd⟩:=hx;replace H:=zh H;replace Hd:=zh Hd;obtain ⟨paG,lG,caG,pbG,mG,cbG,rfl,G,Gd⟩:=hy;replace G:=zh G;replace Gd:=zh Gd;rw [← OL];have k1:=rJ p.num q.den;have k2:=rJ q.num p.den;obtain ⟨kp1,kp2⟩:=kp;obtain ⟨kq1,kq2⟩:=kq;obtain ⟨y1,Ey1⟩:∃ y:Int,Hid (p.num*(q.den:Int)=y):=⟨_,zh rfl⟩;obtain ⟨y2,Ey2⟩:∃ y:Int,Hid (q.num*(p.den:Int)=y):=⟨_,zh rfl⟩;obtain ⟨y3,Ey3⟩:∃ y:Int,Hid (-y2=y):=⟨_,zh rfl⟩;obtain ⟨y4,Ey4⟩:∃ y:Int,Hid (y1+y3=y):=⟨_,zh rfl⟩;rw [Ey1.out,Ey2.out,Ey3.out,Ey4.out];rw [Ey1.out] at k1;rw [Ey2.out] at k2;have k3:sz 1000000000 y3.natAbs=sz 1000000000 y2.natAbs:=by rw [← Ey3.out,Int.natAbs_neg]
 have K1:Hid (sz 1000000000 y1.natAbs≤549755813888):=by unfold Hid;omega
 have K3:Hid (sz 1000000000 y3.natAbs≤549755813888):=by unfold Hid;omega
 have KP1:=zh kp1;have KP2:=zh kp2;have KQ1:=zh kq1;have KQ2:=zh kq2;clear kp1 kp2 kq1 kq2 k1 k2 k3;go_enter Tryz.func66,Tryz.ntmps66
 go_wp2_with fail
 refine aC [(.pure,0),(.read,1),(.pure,2),(.read,3),(.pure,5),(.read,6),(.pure,7),(.read,8),(.ext,4),(.ext,9),(.ext,10),(.ext,11),(.ext,12),(.fin,13)] zk zk zR zP ?_;refine zV ?_;refine aL rfl rfl (fun w1 hb1 J hJ=>?_);go_simp;refine ((uL _ _ p.num q.den _ (gN.iL aI) aI (Nat.le_trans KP1.out zo) (Nat.le_trans KQ2.out zo)).mono (by rw [Ey1.out];exact fun _ _ h=>h)).mono ?_;rintro e v1 ⟨v,rfl,hc1,hv⟩;obtain ⟨bL3,lHA,bQ8,rfl,HA⟩:=hv;replace HA:=zh HA;refine hJ _ _ hc1 ?_;clear hJ J;refine aL rfl rfl (fun w2 hb2 J hJ=>?_);go_simp;refine ((uL _ _ q.num p.den _ (gN.iL aI) aI (Nat.le_trans KQ1.out zo) (Nat.le_trans KP2.out zo)).mono (by rw [Ey2.out];exact fun _ _ h=>h)).mono ?_;rintro e v2 ⟨v,rfl,hc2,hv⟩;obtain ⟨bL2,lHB,bQ7,rfl,HB⟩:=hv;replace HB:=zh HB;refine hJ _ _ hc2 ?_;clear hJ J
 refine aL rfl rfl (fun w3 hb3 J hJ=>?_);go_simp;refine ((wJ _ y2 _ (gN.iL aI)).mono (by rw [Ey3.out];exact fun _ _ h=>h)).mono ?_;rintro e v3 ⟨v,rfl,hc3,hv⟩;obtain ⟨bL1,lHC,bQ6,rfl,HC⟩:=hv;replace HC:=zh HC;refine hJ _ _ hc3 ?_;clear hJ J;refine aL rfl rfl (fun w4 hb4 J hJ=>?_);go_simp;refine ((Bj _ _ y1 y3 _ (gN.iL aI) (gN.iL aI) K1.out K3.out).mono (by rw [Ey4.out];exact fun _ _ h=>h)).mono ?_;rintro e v4 ⟨v,rfl,hc4,hv⟩;obtain ⟨aW9,lHD,bh5,rfl,HD⟩:=hv;replace HD:=zh HD;refine hJ _ _ hc4 ?_;clear hJ J;refine aL rfl rfl (fun w5 hb5 J hJ=>?_);go_simp;refine (zC _ y4 _ (gN.iL aI)).mono ?_;rintro e v5 ⟨rfl,rE⟩;refine hJ _ _ rE ?_;clear hJ J;refine dK [_] rfl (fun w5 hb5=>?_);go_wp2_with fail
 go_ret
 exact ⟨rfl,au⟩
theorem RZ (x y:Value) (n:Int) (d:Nat) (w:World) (hx:gN w x n) (hy:aT w y d) (hd:0<d) (kn:sz 1000000000 n.natAbs≤549755813888) (kd:sz 1000000000 d≤549755813888) :
  Calls Tryz.prog 248 #[x,y] w (fun e w'=>∃ v,e= .returned v∧Below w.heap.size w w'∧jc w' v (mkRat n d)):=by
 obtain ⟨Po,lH,Qp,rfl,H⟩:=hx;replace H:=zh H;obtain ⟨paG,lG,caG,rfl⟩:=hy.slice;have G:=zh hy;clear hy;have HP:=zh (zX n hd);have hg:0<n.natAbs.gcd d:=Nat.gcd_pos_of_pos_right _ hd;obtain ⟨g,Eg⟩:∃ y:Nat,Hid (n.natAbs.gcd d=y):=⟨_,zh rfl⟩;obtain ⟨a,Ea⟩:∃ y:Nat,Hid (n.natAbs / g=y):=⟨_,zh rfl⟩;obtain ⟨b,Eb⟩:∃ y:Nat,Hid (d / g=y):=⟨_,zh rfl⟩;rw [Eg.out] at HP hg;rw [Ea.out,Eb.out] at HP;have KN:=zh kn;have KD:=zh kd;have HG:=zh hg;clear kn kd hg hd;go_enter Tryz.func248,Tryz.ntmps248
 go_wp2_with fail
 refine ((wQ _ _ n.natAbs d _ aI aI KN.out KD.out).mono (by rw [Eg.out];exact fun _ _ h=>h)).mono ?_;rintro e v1 ⟨v,rfl,hc1,hv⟩;obtain ⟨bo7,lHg,bt6,rfl⟩:=hv.slice;have Hg:=zh hv;clear hv;have BR:=ah.later (ah.qN _ _ _ _) hc1;have bQ:=BR.cell;have bL:=BR.free;have B0:=ah.later (ah.alloc (ah.new _ _ _) _) hc1;have cB0:=B0.cell;have nE:=B0.free;go_wp2_with fail
 refine ((ji _ _ n.natAbs g _ aI aI HG.out KN.out).mono (by rw [Ea.out];exact fun _ _ h=>h)).mono ?_;rintro e v2 ⟨v,vr,rfl,hc2,hv,sH⟩;obtain ⟨aW8,lHa,bh4,rfl⟩:=hv.slice;have Ha:=zh hv;clear hv;obtain ⟨bA7,bM8,bE0,rfl⟩:=sH.slice;have Har:=zh sH;clear sH;replace BR:=ah.later (BR) hc2;replace bQ:=BR.cell;replace bL:=BR.free;replace B0:=ah.later (B0) hc2;replace cB0:=B0.cell;replace nE:=B0.free;go_wp2_with fail
 refine ((ji _ _ d g _ aI aI HG.out KD.out).mono (by rw [Eb.out];exact fun _ _ h=>h)).mono ?_;rintro e v3 ⟨v,vr,rfl,hc3,hv,sH⟩;obtain ⟨bo9,lHb,bt8,rfl⟩:=hv.slice;have Hb:=zh hv;clear hv;obtain ⟨bA6,bM7,bD9,rfl⟩:=sH.slice;have Hbr:=zh sH;clear sH;replace BR:=ah.later (BR) hc3;replace bQ:=BR.cell;replace bL:=BR.free;replace B0:=ah.later (B0) hc3;replace cB0:=B0.cell;replace nE:=B0.free;go_wp2_with fail
 refine (iy _ a _ _ aI).mono ?_;rintro e v4 ⟨v,rfl,hc4,hv⟩;obtain ⟨JI,lHs,JZ,rfl,Hs⟩:=hv;replace Hs:=zh Hs;replace BR:=ah.later (BR) hc4;replace bQ:=BR.cell;replace bL:=BR.free;replace B0:=ah.later (B0) hc4;replace cB0:=B0.cell;replace nE:=B0.free;go_wp2_with fail
 refine dG rfl rfl aH Tryz.underlying108 rfl zk ?_;exact ⟨_,rfl,au,jc.mk (kM a (decide (n<0))).natAbs b aI aI (by rw [HP.out.1]) HP.out.2.symm (by rw [HP.out.1])⟩
theorem nP (v:Value) (q:Rat) (w:World) (h:jc w v q) (k:wG 1000000 q) (ht:jw.Pow w) :
  Calls Tryz.prog 140 #[v] w (fun e w'=>e= .returned (Fr.res (wr q))∧Below w.heap.size w w'):=by
 obtain ⟨Po,lH,Qp,pbH,mH,cbH,rfl,H,Hd⟩:=h;replace H:=zh H;replace Hd:=zh Hd;have HT:=zh ht;have K1:=zh k.1;have K2:=zh k.2;clear ht k
 rcases Nat.lt_or_ge 600 (Lib.decDigits q.num.natAbs).length with h1|h1
 ·rw [LJ (by unfold wD;rw [Sz h1];rfl)];go_enter Tryz.func140,Tryz.ntmps140
  go_wp2_with fail
  refine (oG _ q.num.natAbs _ aI (Nat.le_trans K1.out zo) (HT.out.later au)).mono ?_;rintro e v1 ⟨rfl,hc1⟩;have BR:=ah.later (ah.qN _ _ _ _) hc1;have bQ:=BR.cell;have bL:=BR.free;have B0:=ah.later (ah.alloc (ah.new _ _ _) _) hc1;have cB0:=B0.cell;have nE:=B0.free;go_wp2_with fail
  refine aK rfl rfl aH Tryz.underlying32 rfl zk ?_;exact ⟨rfl,au⟩
 ·rcases Nat.lt_or_ge 600 (Lib.decDigits q.den).length with h2|h2
  ·rw [LJ (by unfold wD;rw [Sz h2,Bool.and_false])];go_enter Tryz.func140,Tryz.ntmps140
   go_wp2_with fail
   refine (oG _ q.num.natAbs _ aI (Nat.le_trans K1.out zo) (HT.out.later au)).mono ?_;rintro e v1 ⟨rfl,hc1⟩;have BR:=ah.later (ah.qN _ _ _ _) hc1;have bQ:=BR.cell;have bL:=BR.free;have B0:=ah.later (ah.alloc (ah.new _ _ _) _) hc1;have cB0:=B0.cell;have nE:=B0.free;go_wp2_with fail
   refine (oG _ q.den _ aI (Nat.le_trans K2.out zo) (HT.out.later au)).mono ?_;rintro e v2 ⟨rfl,hc2⟩;replace BR:=ah.later (BR) hc2;replace bQ:=BR.cell;replace bL:=BR.free;replace B0:=ah.later (B0) hc2;replace cB0:=B0.cell;replace nE:=B0.free;go_wp2_with fail
   refine aK rfl rfl aH Tryz.underlying32 rfl zk ?_;exact ⟨rfl,au⟩
  ·rw [aw5 (by unfold wD;rw [iN.2 h1,iN.2 h2];rfl)];go_enter Tryz.func140,Tryz.ntmps140
   go_wp2_with fail
   refine (oG _ q.num.natAbs _ aI (Nat.le_trans K1.out zo) (HT.out.later au)).mono ?_;rintro e v1 ⟨rfl,hc1⟩;have BR:=ah.later (ah.qN _ _ _ _) hc1;have bQ:=BR.cell;have bL:=BR.free;have B0:=ah.later (ah.alloc (ah.new _ _ _) _) hc1;have cB0:=B0.cell;have nE:=B0.free;go_wp2_with fail
   refine (oG _ q.den _ aI (Nat.le_trans K2.out zo) (HT.out.later au)).mono ?_;rintro e v2 ⟨rfl,hc2⟩;replace BR:=ah.later (BR) hc2;replace bQ:=BR.cell;replace bL:=BR.free;replace B0:=ah.later (B0) hc2;replace cB0:=B0.cell;replace nE:=B0.free;go_wp2_with fail
   refine aC [(.pure,0),(.read,1),(.pure,3),(.read,4),(.ext,2),(.ext,5),(.pure,6),(.fin,7),(.fin,8)] zk zk zR zP ?_;refine zV ?_;refine aL rfl rfl (fun w3 hb3 J hJ=>?_);go_simp;replace BR:=ah.later (ah.drew BR) hb3;replace bQ:=BR.cell;replace bL:=BR.free;refine ((UZ _ q.num _ (gN.iL aI) (Nat.le_trans K1.out zo) (HT.out.later au)).mono (fun _ _ h=>by unfold dP at h;exact h)).mono ?_;rintro e v3 ⟨rfl,hc3⟩;replace BR:=ah.later (BR) hc3;replace bQ:=BR.cell;replace bL:=BR.free;refine hJ _ _ hc3 ?_;clear hJ J;refine aL rfl rfl (fun w4 hb4 J hJ=>?_);go_simp;replace BR:=ah.later (BR) hb4;replace bQ:=BR.cell;replace bL:=BR.free;refine (uV _ q.den _ aI (Nat.le_trans K2.out zo) (HT.out.later au)).mono ?_;rintro e v4 ⟨rfl,hc4⟩;replace BR:=ah.later (BR) hc4;replace bQ:=BR.cell;replace bL:=BR.free;refine hJ _ _ hc4 ?_;clear hJ J
   refine zV ?_;refine dK [_,_] rfl (fun w5 hb5=>?_);replace BR:=ah.later (BR) hb5;replace bQ:=BR.cell;replace bL:=BR.free;go_wp2_with fail
   refine aK rfl rfl aH Tryz.underlying32 rfl zk ?_;exact ⟨rfl,au⟩
def QM (w:World) (q:Rat) (e:Ending) (w':World):Prop:=∃ v,e= .returned (.tuple #[v,.bool true])∧Below w.heap.size w w'∧jc w' v q
def uW (w:World) (e:Ending) (w':World):Prop:=e= .returned (.tuple #[.agg #[.slice none 0 0,.bool false,.slice none 0 0],.bool false])∧Below w.heap.size w w'
theorem nI {s:ByteArray} {z:Int} (h:Dec.whole s.data.toList=some z) (w:World):Calls Tryz.prog 221 #[.string s] w (fun e w'=>e= .returned (.int .i64 0)∧Below w.heap.size w w'):=by
 have:=whole.nT s w;rw [h] at this;exact this
theorem IZ {s:ByteArray} (h:Dec.whole s.data.toList=none) (w:World):Calls Tryz.prog 221 #[.string s] w (fun e w'=>e= .returned (.int .i64 10)∧Below w.heap.size w w'):=by
 have:=whole.nT s w;rw [h] at this;exact this
theorem Sb (s t:ByteArray) (h:Dec.whole s.data.toList=none) (w:World) :
  Calls Tryz.prog 141 #[.agg #[.string s,.string t]] w (uW w):=by
 have HC:=zh (IZ h);clear h;go_enter Tryz.func141,Tryz.ntmps141
 go_wp2_with fail
 refine (HC.out _).mono ?_;rintro e v1 ⟨rfl,hc1⟩;have BR:=ah.later (ah.qN _ _ _ _) hc1;have bQ:=BR.cell;have bL:=BR.free;have B0:=ah.later (ah.alloc (ah.new _ _ _) _) hc1;have cB0:=B0.cell;have nE:=B0.free;go_wp2_with fail
 refine aK rfl rfl aH Tryz.underlying108 rfl zk ?_;exact ⟨rfl,au⟩
theorem Sg (s t:ByteArray) (n:Int) (hn:Dec.whole s.data.toList=some n) (h:Dec.whole t.data.toList=none) (w:World) :
  Calls Tryz.prog 141 #[.agg #[.string s,.string t]] w (uW w):=by
 have HC:=zh (nI hn);have HD:=zh (IZ h);clear h hn;go_enter Tryz.func141,Tryz.ntmps141
 go_wp2_with fail
 refine (HC.out _).mono ?_;rintro e v1 ⟨rfl,hc1⟩;have BR:=ah.later (ah.qN _ _ _ _) hc1;have bQ:=BR.cell;have bL:=BR.free;have B0:=ah.later (ah.alloc (ah.new _ _ _) _) hc1;have cB0:=B0.cell;have nE:=B0.free;go_wp2_with fail
 refine (HD.out _).mono ?_;rintro e v2 ⟨rfl,hc2⟩;replace BR:=ah.later (BR) hc2;replace bQ:=BR.cell;replace bL:=BR.free;replace B0:=ah.later (B0) hc2;replace cB0:=B0.cell;replace nE:=B0.free;go_wp2_with fail
 refine aK rfl rfl aH Tryz.underlying108 rfl zk ?_;exact ⟨rfl,au⟩
theorem Xc (q:Rat) (hq:wD q=true) (w:World) :
  Calls Tryz.prog 141 #[(Fr.of q).v] w (QM w q):=by
 show Calls _ _ #[.agg #[.string ⟨(Lib.itoa q.num).toArray⟩,.string ⟨(Lib.itoa (q.den:Int)).toArray⟩]] _ _
 have hs:=mJ hq
 have hl:(Lib.decDigits q.num.natAbs).length≤600∧(Lib.decDigits ((q.den:Nat):Int).natAbs).length≤600:=by
  unfold wD at hq;rw [Bool.and_eq_true,iN,iN] at hq;exact ⟨hq.1,(Int.natAbs_natCast q.den).symm ▸ hq.2⟩
 obtain ⟨hl1,hl2⟩:=hl;have hd:=q.den_pos;have hr:=q.reduced;have HC:=zh (nI (s:=⟨(Lib.itoa q.num).toArray⟩) (iF hl1));have HD:=zh (nI (s:=⟨(Lib.itoa (q.den:Int)).toArray⟩) (iF hl2));have HL1:=zh hl1;have HL2:=zh hl2;have HR:=zh hr;have S1:=zh hs.1;have S2:=zh hs.2;obtain ⟨d,Ed⟩:∃ y:Int,Hid ((q.den:Int)=y):=⟨_,zh rfl⟩;have hdn:d.natAbs=q.den:=by rw [← Ed.out,Int.natAbs_natCast]
 have hd1:0<d:=by rw [← Ed.out];omega
 have hsg:yE d=1:=by unfold yE;rw [if_neg zo,if_neg zo]
 have hdf:decide (d<0)=false:=by simp;omega
 have HDN:=zh hdn;have HSG:=zh hsg;have HDF:=zh hdf;have HR1:Hid (q.num.natAbs.gcd d.natAbs=1):=by unfold Hid;rw [hdn];exact hr
 rw [Ed.out] at HL2 HD ⊢;clear hq hs hl1 hl2 hr hd hdn hd1 hsg hdf;go_enter Tryz.func141,Tryz.ntmps141
 go_wp2_with fail
 refine (HC.out _).mono ?_;rintro e v1 ⟨rfl,hc1⟩;have BR:=ah.later (ah.qN _ _ _ _) hc1;have bQ:=BR.cell;have bL:=BR.free;have B0:=ah.later (ah.alloc (ah.new _ _ _) _) hc1;have cB0:=B0.cell;have nE:=B0.free;go_wp2_with fail
 refine (HD.out _).mono ?_;rintro e v2 ⟨rfl,hc2⟩;replace BR:=ah.later (BR) hc2;replace bQ:=BR.cell;replace bL:=BR.free;replace B0:=ah.later (B0) hc2;replace cB0:=B0.cell;replace nE:=B0.free;go_wp2_with fail
 refine aC [(.pure,0),(.read,1),(.pure,3),(.read,4),(.ext,2),(.ext,5),(.alloc #[.slice none 0 0,.bool false] 106,6),(.alloc #[.slice none 0 0,.bool false] 106,7),(.fin,8),(.fin,9)] zk zk zR zP ?_;refine zV ?_;refine aL rfl rfl (fun w3 hb3 J hJ=>?_);go_simp;replace BR:=ah.later (ah.drew BR) hb3;replace bQ:=BR.cell;replace bL:=BR.free;replace B0:=ah.later (ah.drew B0) hb3;replace cB0:=B0.cell;replace nE:=B0.free;refine (mE q.num HL1.out _).mono ?_;rintro e v3 ⟨v,rfl,hc3,hv⟩;obtain ⟨am5,lHN,ar7,rfl,HN⟩:=hv;replace HN:=zh HN;replace BR:=ah.later (BR) hc3;replace bQ:=BR.cell;replace bL:=BR.free;replace B0:=ah.later (B0) hc3;replace cB0:=B0.cell;replace nE:=B0.free;refine hJ _ _ hc3 ?_;clear hJ J;refine aL rfl rfl (fun w4 hb4 J hJ=>?_);go_simp;replace BR:=ah.later (BR) hb4;replace bQ:=BR.cell;replace bL:=BR.free
 replace B0:=ah.later (B0) hb4;replace cB0:=B0.cell;replace nE:=B0.free;refine (mE d HL2.out _).mono ?_;rintro e v4 ⟨v,rfl,hc4,hv⟩;obtain ⟨am6,lHM,ar8,rfl,HM⟩:=hv;replace HM:=zh HM;replace BR:=ah.later (BR) hc4;replace bQ:=BR.cell;replace bL:=BR.free;replace B0:=ah.later (B0) hc4;replace cB0:=B0.cell;replace nE:=B0.free;refine hJ _ _ hc4 ?_;clear hJ J;refine jK rfl (fun b1 w5 hw5 TF ac0 aE3 gL=>?_);go_simp;replace gL:ah _ _ _ _:=gL;have aE1:w.heap.size≤b1:=(by first|omega|exact Nat.le_trans (Below.size (B:=w.heap.size) au) TF);replace BR:=ah.later (BR) hw5;replace bQ:=BR.cell;replace bL:=BR.free;refine jK rfl (fun b2 w6 hw6 ac8 ax7 ad1 kG=>?_);go_simp;replace kG:ah _ _ _ _:=kG;have bg4:w.heap.size≤b2:=(by first|omega|exact Nat.le_trans (Below.size (B:=w.heap.size) au) ac8)
 replace BR:=ah.later (BR) hw6;replace bQ:=BR.cell;replace bL:=BR.free;replace gL:=ah.later (gL) hw6;replace sK:=gL.cell;replace sI:=gL.free;refine dK [_,_] rfl (fun w7 qZ=>?_);replace BR:=ah.later (BR) qZ;replace bQ:=BR.cell;replace bL:=BR.free;replace gL:=ah.later (gL) qZ;replace sK:=gL.cell;replace sI:=gL.free;replace kG:=ah.later (kG) qZ;replace IY:=kG.cell;replace IE:=kG.free;have n1:b1≠b2:=fun e=>ad1 (by simp [e]);have n2:b2≠b1:=fun e=>n1 e.symm;have n3:=BR.ne gL zd;have n4:=BR.ne kG zd;go_wp2_with fail
 refine ((zC _ d _ (gN.iL aI)).mono (by rw [HSG.out];exact fun _ _ h=>h)).mono ?_;rintro e v5 ⟨rfl,rE⟩;replace HN:=zh (aT.carry HN.out aI rE);replace HM:=zh (aT.carry HM.out aI rE);replace gL:ah _ (b1) _ _:=ah.later aH rE;(try simp only [List.setIfInBounds_toArray,List.set_cons_zero,List.set_cons_succ] at gL);replace sK:=gL.cell;replace sI:=gL.free;replace kG:ah _ (b2) _ _:=ah.later aH rE;(try simp only [List.setIfInBounds_toArray,List.set_cons_zero,List.set_cons_succ] at kG);replace IY:=kG.cell;replace IE:=kG.free;replace BR:ah _ (w.heap.size+1) _ _:=ah.later aH rE;(try simp only [List.setIfInBounds_toArray,List.set_cons_zero,List.set_cons_succ] at BR);replace bQ:=BR.cell;replace bL:=BR.free;go_wp2_with fail
 refine ((wQ _ _ q.num.natAbs d.natAbs _ aI aI (Nat.le_trans S1.out zo) (by rw [HDN.out];exact Nat.le_trans S2.out zo)).mono (by rw [HR1.out];exact fun _ _ h=>h)).mono ?_;rintro e v6 ⟨v,rfl,hc6,hv⟩;obtain ⟨bp1,lHG,bu0,rfl⟩:=hv.slice;have HG:=zh hv;clear hv;replace HN:=zh (aT.later HN.out hc6);replace HM:=zh (aT.later HM.out hc6);replace gL:=ah.later (gL) hc6;replace sK:=gL.cell;replace sI:=gL.free;replace kG:=ah.later (kG) hc6;replace IY:=kG.cell;replace IE:=kG.free;replace BR:=ah.later (BR) hc6;replace bQ:=BR.cell;replace bL:=BR.free;go_wp2_with fail
 refine ((lF _ _ 1 1 _ aI (aT.lit zo zo)).mono (by rw [vD];exact fun _ _ h=>h)).mono ?_;rintro e v7 ⟨rfl,Nn⟩;replace HN:=zh (aT.carry HN.out aI Nn);replace HM:=zh (aT.carry HM.out aI Nn);replace gL:ah _ (b1) _ _:=ah.later aH Nn;(try simp only [List.setIfInBounds_toArray,List.set_cons_zero,List.set_cons_succ] at gL);replace sK:=gL.cell;replace sI:=gL.free;replace kG:ah _ (b2) _ _:=ah.later aH Nn;(try simp only [List.setIfInBounds_toArray,List.set_cons_zero,List.set_cons_succ] at kG);replace IY:=kG.cell;replace IE:=kG.free;replace BR:ah _ (w.heap.size+1) _ _:=ah.later aH Nn;(try simp only [List.setIfInBounds_toArray,List.set_cons_zero,List.set_cons_succ] at BR);replace bQ:=BR.cell;replace bL:=BR.free;go_wp2_with fail
 refine aK rfl rfl aH Tryz.underlying108 rfl zk ?_;refine ⟨_,rfl,au,jc.mk q.num.natAbs d.natAbs aI aI rfl HDN.out rfl⟩
theorem JG (n d:Int) (hl1:(Lib.decDigits n.natAbs).length≤600) (hl2:(Lib.decDigits d.natAbs).length≤600) (hd:d≤0) (w:World) :
  Calls Tryz.prog 141 #[.agg #[.string ⟨(Lib.itoa n).toArray⟩,.string ⟨(Lib.itoa d).toArray⟩]] w (uW w):=by
 have HC:=zh (nI (s:=⟨(Lib.itoa n).toArray⟩) (iF hl1));have HD:=zh (nI (s:=⟨(Lib.itoa d).toArray⟩) (iF hl2));have HL1:=zh hl1;have HL2:=zh hl2
 have hs:yE d=0∨yE d= -1:=by
  unfold yE
  by_cases h:d=0
  ·rw [if_pos h];exact .inl rfl
  ·rw [if_neg h,if_pos zo];exact .inr rfl
 clear hl1 hl2 hd
 rcases hs with hs|hs
 all_goals
  have HSG:=zh hs;clear hs;go_enter Tryz.func141,Tryz.ntmps141
  go_wp2_with fail
  refine (HC.out _).mono ?_;rintro e v1 ⟨rfl,hc1⟩;have BR:=ah.later (ah.qN _ _ _ _) hc1;have bQ:=BR.cell;have bL:=BR.free;have B0:=ah.later (ah.alloc (ah.new _ _ _) _) hc1;have cB0:=B0.cell;have nE:=B0.free;go_wp2_with fail
  refine (HD.out _).mono ?_;rintro e v2 ⟨rfl,hc2⟩;replace BR:=ah.later (BR) hc2;replace bQ:=BR.cell;replace bL:=BR.free;replace B0:=ah.later (B0) hc2;replace cB0:=B0.cell;replace nE:=B0.free;go_wp2_with fail
  refine aC [(.pure,0),(.read,1),(.pure,3),(.read,4),(.ext,2),(.ext,5),(.alloc #[.slice none 0 0,.bool false] 106,6),(.alloc #[.slice none 0 0,.bool false] 106,7),(.fin,8),(.fin,9)] zk zk zR zP ?_;refine zV ?_;refine aL rfl rfl (fun w3 hb3 J hJ=>?_);go_simp;replace BR:=ah.later (ah.drew BR) hb3;replace bQ:=BR.cell;replace bL:=BR.free;replace B0:=ah.later (ah.drew B0) hb3;replace cB0:=B0.cell;replace nE:=B0.free;refine (mE n HL1.out _).mono ?_;rintro e v3 ⟨v,rfl,hc3,hv⟩;obtain ⟨am5,lHN,ar7,rfl,HN⟩:=hv;replace HN:=zh HN;replace BR:=ah.later (BR) hc3;replace bQ:=BR.cell;replace bL:=BR.free;replace B0:=ah.later (B0) hc3;replace cB0:=B0.cell;replace nE:=B0.free;refine hJ _ _ hc3 ?_;clear hJ J;refine aL rfl rfl (fun w4 hb4 J hJ=>?_);go_simp;replace BR:=ah.later (BR) hb4;replace bQ:=BR.cell;replace bL:=BR.free
  replace B0:=ah.later (B0) hb4;replace cB0:=B0.cell;replace nE:=B0.free;refine (mE d HL2.out _).mono ?_;rintro e v4 ⟨v,rfl,hc4,hv⟩;obtain ⟨am6,lHM,ar8,rfl,HM⟩:=hv;replace HM:=zh HM;replace BR:=ah.later (BR) hc4;replace bQ:=BR.cell;replace bL:=BR.free;replace B0:=ah.later (B0) hc4;replace cB0:=B0.cell;replace nE:=B0.free;refine hJ _ _ hc4 ?_;clear hJ J;refine jK rfl (fun b1 w5 hw5 TF ac0 aE3 gL=>?_);go_simp;replace gL:ah _ _ _ _:=gL;have aE1:w.heap.size≤b1:=(by first|omega|exact Nat.le_trans (Below.size (B:=w.heap.size) au) TF);replace BR:=ah.later (BR) hw5;replace bQ:=BR.cell;replace bL:=BR.free;refine jK rfl (fun b2 w6 hw6 ac8 ax7 ad1 kG=>?_);go_simp;replace kG:ah _ _ _ _:=kG;have bg4:w.heap.size≤b2:=(by first|omega|exact Nat.le_trans (Below.size (B:=w.heap.size) au) ac8)
  replace BR:=ah.later (BR) hw6;replace bQ:=BR.cell;replace bL:=BR.free;replace gL:=ah.later (gL) hw6;replace sK:=gL.cell;replace sI:=gL.free;refine dK [_,_] rfl (fun w7 qZ=>?_);replace BR:=ah.later (BR) qZ;replace bQ:=BR.cell;replace bL:=BR.free;replace gL:=ah.later (gL) qZ;replace sK:=gL.cell;replace sI:=gL.free;replace kG:=ah.later (kG) qZ;replace IY:=kG.cell;replace IE:=kG.free;have n1:b1≠b2:=fun e=>ad1 (by simp [e]);have n2:b2≠b1:=fun e=>n1 e.symm;have n3:=BR.ne gL zd;have n4:=BR.ne kG zd;go_wp2_with fail
  refine ((zC _ d _ (gN.iL aI)).mono (by rw [HSG.out];exact fun _ _ h=>h)).mono ?_;rintro e v5 ⟨rfl,rE⟩;replace BR:ah _ (w.heap.size+1) _ _:=ah.later aH rE;(try simp only [List.setIfInBounds_toArray,List.set_cons_zero,List.set_cons_succ] at BR);replace bQ:=BR.cell;replace bL:=BR.free;go_wp2_with fail
  refine aK rfl rfl aH Tryz.underlying108 rfl zk ?_;exact ⟨rfl,au⟩
theorem RU {g:Nat} (h:g≠1):yF g 1= -1∨yF g 1=1:=by
 unfold yF
 by_cases h2:g<1
 ·rw [if_pos h2];exact .inl rfl
 ·rw [if_neg h2,if_pos zo];exact .inr rfl
theorem MR (n d:Int) (hl1:(Lib.decDigits n.natAbs).length≤600) (hl2:(Lib.decDigits d.natAbs).length≤600) (hd:0<d) (hg:n.natAbs.gcd d.natAbs≠1) (w:World) :
  Calls Tryz.prog 141 #[.agg #[.string ⟨(Lib.itoa n).toArray⟩,.string ⟨(Lib.itoa d).toArray⟩]] w (uW w):=by
 have HC:=zh (nI (s:=⟨(Lib.itoa n).toArray⟩) (iF hl1));have HD:=zh (nI (s:=⟨(Lib.itoa d).toArray⟩) (iF hl2));have HL1:=zh hl1;have HL2:=zh hl2;have S1:=zh (nN (iN.2 hl1));have S2:=zh (nN (iN.2 hl2));have hsg:yE d=1:=by unfold yE;rw [if_neg zo,if_neg zo]
 have hdf:decide (d<0)=false:=by simp;omega
 have HSG:=zh hsg;have hs:=RU hg;obtain ⟨g,Eg⟩:∃ y:Nat,Hid (n.natAbs.gcd d.natAbs=y):=⟨_,zh rfl⟩;rw [Eg.out] at hs;clear hl1 hl2 hd hg hsg hdf
 rcases hs with hs|hs
 all_goals
  have HS:=zh hs;clear hs;go_enter Tryz.func141,Tryz.ntmps141
  go_wp2_with fail
  refine (HC.out _).mono ?_;rintro e v1 ⟨rfl,hc1⟩;have BR:=ah.later (ah.qN _ _ _ _) hc1;have bQ:=BR.cell;have bL:=BR.free;have B0:=ah.later (ah.alloc (ah.new _ _ _) _) hc1;have cB0:=B0.cell;have nE:=B0.free;go_wp2_with fail
  refine (HD.out _).mono ?_;rintro e v2 ⟨rfl,hc2⟩;replace BR:=ah.later (BR) hc2;replace bQ:=BR.cell;replace bL:=BR.free;replace B0:=ah.later (B0) hc2;replace cB0:=B0.cell;replace nE:=B0.free;go_wp2_with fail
  refine aC [(.pure,0),(.read,1),(.pure,3),(.read,4),(.ext,2),(.ext,5),(.alloc #[.slice none 0 0,.bool false] 106,6),(.alloc #[.slice none 0 0,.bool false] 106,7),(.fin,8),(.fin,9)] zk zk zR zP ?_;refine zV ?_;refine aL rfl rfl (fun w3 hb3 J hJ=>?_);go_simp;replace BR:=ah.later (ah.drew BR) hb3;replace bQ:=BR.cell;replace bL:=BR.free;replace B0:=ah.later (ah.drew B0) hb3;replace cB0:=B0.cell;replace nE:=B0.free;refine (mE n HL1.out _).mono ?_;rintro e v3 ⟨v,rfl,hc3,hv⟩;obtain ⟨am5,lHN,ar7,rfl,HN⟩:=hv;replace HN:=zh HN;replace BR:=ah.later (BR) hc3;replace bQ:=BR.cell;replace bL:=BR.free;replace B0:=ah.later (B0) hc3;replace cB0:=B0.cell;replace nE:=B0.free;refine hJ _ _ hc3 ?_;clear hJ J;refine aL rfl rfl (fun w4 hb4 J hJ=>?_);go_simp;replace BR:=ah.later (BR) hb4;replace bQ:=BR.cell;replace bL:=BR.free
  replace B0:=ah.later (B0) hb4;replace cB0:=B0.cell;replace nE:=B0.free;refine (mE d HL2.out _).mono ?_;rintro e v4 ⟨v,rfl,hc4,hv⟩;obtain ⟨am6,lHM,ar8,rfl,HM⟩:=hv;replace HM:=zh HM;replace BR:=ah.later (BR) hc4;replace bQ:=BR.cell;replace bL:=BR.free;replace B0:=ah.later (B0) hc4;replace cB0:=B0.cell;replace nE:=B0.free;refine hJ _ _ hc4 ?_;clear hJ J;refine jK rfl (fun b1 w5 hw5 TF ac0 aE3 gL=>?_);go_simp;replace gL:ah _ _ _ _:=gL;have aE1:w.heap.size≤b1:=(by first|omega|exact Nat.le_trans (Below.size (B:=w.heap.size) au) TF);replace BR:=ah.later (BR) hw5;replace bQ:=BR.cell;replace bL:=BR.free;refine jK rfl (fun b2 w6 hw6 ac8 ax7 ad1 kG=>?_);go_simp;replace kG:ah _ _ _ _:=kG;have bg4:w.heap.size≤b2:=(by first|omega|exact Nat.le_trans (Below.size (B:=w.heap.size) au) ac8)
  replace BR:=ah.later (BR) hw6;replace bQ:=BR.cell;replace bL:=BR.free;replace gL:=ah.later (gL) hw6;replace sK:=gL.cell;replace sI:=gL.free;refine dK [_,_] rfl (fun w7 qZ=>?_);replace BR:=ah.later (BR) qZ;replace bQ:=BR.cell;replace bL:=BR.free;replace gL:=ah.later (gL) qZ;replace sK:=gL.cell;replace sI:=gL.free;replace kG:=ah.later (kG) qZ;replace IY:=kG.cell;replace IE:=kG.free;have n1:b1≠b2:=fun e=>ad1 (by simp [e]);have n2:b2≠b1:=fun e=>n1 e.symm;have n3:=BR.ne gL zd;have n4:=BR.ne kG zd;go_wp2_with fail
  refine ((zC _ d _ (gN.iL aI)).mono (by rw [HSG.out];exact fun _ _ h=>h)).mono ?_;rintro e v5 ⟨rfl,rE⟩;replace HN:=zh (aT.carry HN.out aI rE);replace HM:=zh (aT.carry HM.out aI rE);replace gL:ah _ (b1) _ _:=ah.later aH rE;(try simp only [List.setIfInBounds_toArray,List.set_cons_zero,List.set_cons_succ] at gL);replace sK:=gL.cell;replace sI:=gL.free;replace kG:ah _ (b2) _ _:=ah.later aH rE;(try simp only [List.setIfInBounds_toArray,List.set_cons_zero,List.set_cons_succ] at kG);replace IY:=kG.cell;replace IE:=kG.free;replace BR:ah _ (w.heap.size+1) _ _:=ah.later aH rE;(try simp only [List.setIfInBounds_toArray,List.set_cons_zero,List.set_cons_succ] at BR);replace bQ:=BR.cell;replace bL:=BR.free;go_wp2_with fail
  refine ((wQ _ _ n.natAbs d.natAbs _ aI aI (Nat.le_trans S1.out zo) (Nat.le_trans S2.out zo)).mono (by rw [Eg.out];exact fun _ _ h=>h)).mono ?_;rintro e v6 ⟨v,rfl,hc6,hv⟩;obtain ⟨bp1,lHG,bu0,rfl⟩:=hv.slice;have HG:=zh hv;clear hv;replace HN:=zh (aT.later HN.out hc6);replace HM:=zh (aT.later HM.out hc6);replace gL:=ah.later (gL) hc6;replace sK:=gL.cell;replace sI:=gL.free;replace kG:=ah.later (kG) hc6;replace IY:=kG.cell;replace IE:=kG.free;replace BR:=ah.later (BR) hc6;replace bQ:=BR.cell;replace bL:=BR.free;go_wp2_with fail
  refine ((lF _ _ g 1 _ aI (aT.lit zo zo)).mono (by rw [HS.out];exact fun _ _ h=>h)).mono ?_;rintro e v7 ⟨rfl,Nn⟩;replace BR:ah _ (w.heap.size+1) _ _:=ah.later aH Nn;(try simp only [List.setIfInBounds_toArray,List.set_cons_zero,List.set_cons_succ] at BR);replace bQ:=BR.cell;replace bL:=BR.free;go_wp2_with fail
  refine aK rfl rfl aH Tryz.underlying108 rfl zk ?_;exact ⟨rfl,au⟩
theorem Xd (a:Fr) (h:rd a=none) (w:World):Calls Tryz.prog 141 #[a.v] w (uW w):=by
 obtain ⟨s,t⟩:=a
 show Calls _ _ #[.agg #[.string s,.string t]] _ _
 unfold rd at h;simp only at h;cases e1:Dec.whole s.data.toList with
 | none=>exact Sb s t e1 w
 | some n =>
  cases e2:Dec.whole t.data.toList with
  | none=>exact Sg s t n e1 e2 w
  | some d =>
   rw [e1,e2] at h;simp only at h;obtain ⟨h1,h2⟩:=rP e1;obtain ⟨h3,h4⟩:=rP e2;have hs:s=⟨(Lib.itoa n).toArray⟩:=NK h1;have ht:t=⟨(Lib.itoa d).toArray⟩:=NK h3;rw [hs,ht]
   by_cases hd:0<d
   ·refine MR n d h2 h4 hd (fun e=>?_) w;rw [dif_pos ⟨hd,e⟩] at h;cases h
   ·exact JG n d h2 h4 zo w
theorem iW {s t:ByteArray} {q:Rat} (h:rd ⟨s,t⟩=some q) (w:World):Calls Tryz.prog 141 #[.agg #[.string s,.string t]] w (QM w q):=by
 obtain ⟨e,hq⟩:=oZ h;have:=Xc q hq w;rw [← e] at this;exact this
theorem jy {s t:ByteArray} (h:rd ⟨s,t⟩=none) (w:World):Calls Tryz.prog 141 #[.agg #[.string s,.string t]] w (uW w):=Xd ⟨s,t⟩ h w
theorem nT (a:Fr) (w:World) :
  Calls Tryz.prog 166 #[a.v] w (fun e w'=>e= .returned (.int .i64 (BS a))∧Below w.heap.size w w'):=by
 obtain ⟨s,t⟩:=a
 show Calls _ _ #[.agg #[.string s,.string t]] _ _
 unfold BS;cases h:rd ⟨s,t⟩ with
 | none =>
  have HR:=zh (jy h);clear h;go_enter Tryz.func166,Tryz.ntmps166
  go_wp2_with fail
  refine (HR.out _).mono ?_;rintro e v1 ⟨rfl,hc1⟩;go_wp2_with fail
  go_ret
  exact ⟨rfl,au⟩
 | some q =>
  have HR:=zh (iW h);clear h;go_enter Tryz.func166,Tryz.ntmps166
  go_wp2_with fail
  refine (HR.out _).mono ?_;rintro e v1 ⟨v,rfl,hc1,hv⟩;obtain ⟨xI,Rm,xR,zN,Vu,Am,rfl,Hq,rM⟩:=hv;replace Hq:=zh Hq;replace rM:=zh rM;go_wp2_with fail
  go_ret
  exact ⟨rfl,au⟩
def pair (x:Int × Int):Value:=.tuple #[.int .i64 x.1,.int .i64 x.2]
theorem Og (a:Fr) (w:World) :
  Calls Tryz.prog 104 #[a.v] w (fun e w'=>e= .returned (pair (uK a))∧Below w.heap.size w w'):=by
 obtain ⟨s,t⟩:=a
 show Calls _ _ #[.agg #[.string s,.string t]] _ _
 unfold uK;cases h:rd ⟨s,t⟩ with
 | none =>
  have HR:=zh (jy h);clear h;go_enter Tryz.func104,Tryz.ntmps104
  go_wp2_with fail
  refine (HR.out _).mono ?_;rintro e v1 ⟨rfl,hc1⟩;go_wp2_with fail
  go_ret2
  exact ⟨rfl,au⟩
 | some q =>
  have HR:=zh (iW h);have e:=Xa q;simp only;rw [← e];clear h e;go_enter Tryz.func104,Tryz.ntmps104
  go_wp2_with fail
  refine (HR.out _).mono ?_;rintro e v1 ⟨v,rfl,hc1,hv⟩;obtain ⟨xI,Rm,xR,zN,Vu,Am,rfl,Hq,rM⟩:=hv;replace Hq:=zh Hq;replace rM:=zh rM;go_wp2_with fail
  refine (zC _ q.num _ (gN.iL aI)).mono ?_;rintro e v2 ⟨rfl,hc2⟩;go_wp2_with fail
  go_ret2
  exact ⟨rfl,au⟩
theorem Qv (s t s' t':ByteArray) (w:World) :
  Calls Tryz.prog 65 #[.agg #[.string s,.string t],.agg #[.string s',.string t'],.func (.func 66) #[] #[]] w (fun e w'=>e= .returned (pair (Ak ⟨s,t⟩ ⟨s',t'⟩))∧Below w.heap.size w w'):=by
 unfold Ak;cases h:rd ⟨s,t⟩ with
 | none =>
  have HR:=zh (jy h);cases k:rd ⟨s',t'⟩ with
  | none =>
   have HS:=zh (jy k);clear h k;go_enter Tryz.func65,Tryz.ntmps65
   go_wp2_with fail
   refine (HR.out _).mono ?_;rintro e v1 ⟨rfl,hc1⟩;have B1:=ah.later (ah.qN _ _ _ _) hc1;have cB1:=B1.cell;have uG:=B1.free;have lB1:=B1.lt;go_wp2_with fail
   refine (HS.out _).mono ?_;rintro e v2 ⟨rfl,hc2⟩;go_wp2_with fail
   go_ret2
   exact ⟨rfl,au⟩
  | some q =>
   have HS:=zh (iW k);clear h k;go_enter Tryz.func65,Tryz.ntmps65
   go_wp2_with fail
   refine (HR.out _).mono ?_;rintro e v1 ⟨rfl,hc1⟩;have B1:=ah.later (ah.qN _ _ _ _) hc1;have cB1:=B1.cell;have uG:=B1.free;have lB1:=B1.lt;go_wp2_with fail
   refine (HS.out _).mono ?_;rintro e v2 ⟨v,rfl,hc2,hv⟩;obtain ⟨xI,Rm,xR,zN,Vu,Am,rfl,Hq,rM⟩:=hv;replace Hq:=zh Hq;replace rM:=zh rM;go_wp2_with fail
   go_ret2
   exact ⟨rfl,au⟩
 | some p =>
  have HR:=zh (iW h);cases k:rd ⟨s',t'⟩ with
  | none =>
   have HS:=zh (jy k);clear h k;go_enter Tryz.func65,Tryz.ntmps65
   go_wp2_with fail
   refine (HR.out _).mono ?_;rintro e v1 ⟨v,rfl,hc1,hv⟩;obtain ⟨Gx,ZT,Ja,JH,mHp,JY,rfl,Hp,rO⟩:=hv;replace Hp:=zh Hp;replace rO:=zh rO;have B1:=ah.later (ah.qN _ _ _ _) hc1;have cB1:=B1.cell;have uG:=B1.free;have lB1:=B1.lt;go_wp2_with fail
   refine (HS.out _).mono ?_;rintro e v2 ⟨rfl,hc2⟩;go_wp2_with fail
   go_ret2
   exact ⟨rfl,au⟩
  | some q =>
   have HS:=zh (iW k);have KP:=zh ((mJ (oZ h).2).mono (show 67≤1000000 by omega));have KQ:=zh ((mJ (oZ k).2).mono (show 67≤1000000 by omega));clear h k;go_enter Tryz.func65,Tryz.ntmps65
   go_wp2_with fail
   refine (HR.out _).mono ?_;rintro e v1 ⟨v,rfl,hc1,hv⟩;obtain ⟨Gx,ZT,Ja,JH,mHp,JY,rfl,Hp,rO⟩:=hv;replace Hp:=zh Hp;replace rO:=zh rO;have B1:=ah.later (ah.qN _ _ _ _) hc1;have cB1:=B1.cell;have uG:=B1.free;have lB1:=B1.lt;go_wp2_with fail
   refine (HS.out _).mono ?_;rintro e v2 ⟨v,rfl,hc2,hv⟩;obtain ⟨xI,Rm,xR,zN,Vu,Am,rfl,Hq,rM⟩:=hv;replace Hq:=zh Hq;replace rM:=zh rM;replace X1:ah _ (v1.heap.size) _ _:=ah.later aH hc2;(try simp only [List.setIfInBounds_toArray,List.set_cons_zero,List.set_cons_succ] at X1);replace aO:=X1.cell;replace aP:=X1.free;replace aN:=X1.lt;go_wp2_with fail
   refine (Gz _ _ p q _ (jc.of aI aI) (jc.of aI aI) KP.out KQ.out).mono ?_;rintro e v3 ⟨rfl,hc3⟩;go_wp2_with fail
   go_ret2
   exact ⟨rfl,au⟩
theorem Oo (a b:Fr) (w:World) :
  Calls Tryz.prog 19 #[a.v,b.v] w (fun e w'=>e= .returned (pair (Ak a b))∧Below w.heap.size w w'):=by
 obtain ⟨s,t⟩:=a;obtain ⟨s',t'⟩:=b
 show Calls _ _ #[.agg #[.string s,.string t],.agg #[.string s',.string t']] _ _
 have H:=zh (Qv s t s' t');unfold pair at *;generalize Ak ⟨s,t⟩ ⟨s',t'⟩=c at *;obtain ⟨x,y⟩:=c;go_enter Tryz.func19,Tryz.ntmps19
 go_wp2_with fail
 refine (H.out _).mono ?_;rintro e v1 ⟨rfl,hc1⟩;go_wp2_with fail
 go_ret2
 exact ⟨rfl,au⟩
theorem av4 (n d:Int) (hl1:(Lib.decDigits n.natAbs).length≤600) (hl2:(Lib.decDigits d.natAbs).length≤600) (w:World) (ht:jw.Pow w) :
  Calls Tryz.prog 192 #[.string ⟨(Lib.itoa n).toArray⟩,.string ⟨(Lib.itoa d).toArray⟩] w (fun e w'=>e= .returned (Fr.res (qE n d))∧Below w.heap.size w w'):=by
 have HC:=zh (nI (s:=⟨(Lib.itoa n).toArray⟩) (iF hl1));have HD:=zh (nI (s:=⟨(Lib.itoa d).toArray⟩) (iF hl2));have HL1:=zh hl1;have HL2:=zh hl2;have S1:=nN (iN.2 hl1);have S2:=nN (iN.2 hl2);have HT:=zh ht;clear ht hl1 hl2
 by_cases h0:d=0
 ·have e:Fr.res (qE n d)= .tuple #[.agg #[.string ⟨#[]⟩,.string ⟨#[]⟩],.int .i64 7]:=by unfold qE;rw [if_pos h0];rfl
  rw [e];have hz:decide (d.natAbs=0)=true:=by simp;omega
  have HZ:=zh hz;clear e h0 hz S1 S2;go_enter Tryz.func192,Tryz.ntmps192
  go_wp2_with fail
  refine (HC.out _).mono ?_;rintro e v1 ⟨rfl,hc1⟩;have BR:=ah.later (ah.new _ _ _) hc1;have bQ:=BR.cell;have bL:=BR.free;have jE:=BR.lt;go_wp2_with fail
  refine (HD.out _).mono ?_;rintro e v2 ⟨rfl,hc2⟩;replace BR:=ah.later (BR) hc2;replace bQ:=BR.cell;replace bL:=BR.free;replace jE:=BR.lt;go_wp2_with fail
  refine (mE n HL1.out _).mono ?_;rintro e v3 ⟨v,rfl,hc3,hv⟩;obtain ⟨am5,lHN,ar7,rfl,HN⟩:=hv;replace HN:=zh HN;replace BR:=ah.later (BR) hc3;replace bQ:=BR.cell;replace bL:=BR.free;replace jE:=BR.lt;go_wp2_with fail
  refine (mE d HL2.out _).mono ?_;rintro e v4 ⟨v,rfl,hc4,hv⟩;obtain ⟨am6,lHM,ar8,rfl,HM⟩:=hv;replace HM:=zh HM;replace BR:=ah.later (BR) hc4;replace bQ:=BR.cell;replace bL:=BR.free;replace jE:=BR.lt;go_wp2_with fail
  refine (jH _ d.natAbs _ aI).mono ?_;rintro e v5 ⟨rfl,rfl⟩;rw [HZ.out];go_wp2_with fail
  refine aK rfl rfl aH Tryz.underlying32 rfl zk ?_;exact ⟨rfl,au⟩
 ·have e:qE n d=wr (mkRat (kM n.natAbs (!(decide (n<0) == decide (d<0)))) d.natAbs):=by unfold qE;rw [if_neg h0,an7 n d h0]
  rw [e];have hz:decide (d.natAbs=0)=false:=by simp;omega
  have HZ:=zh hz;have hdp:0<d.natAbs:=by omega
  have HDP:=zh hdp;obtain ⟨f,Ef⟩:∃ y:Bool,Hid (Bool.not (decide (n<0) == decide (d<0))=y):=⟨_,zh rfl⟩;obtain ⟨s,Es⟩:∃ y:Int,Hid (kM n.natAbs f=y):=⟨_,zh rfl⟩;rw [Ef.out,Es.out];have hs:sz 1000000000 s.natAbs≤67:=by rw [← Es.out,nu];exact S1
  have KS:=zh (Nat.le_trans hs (show 67≤549755813888 by omega));have KD:=zh (Nat.le_trans S2 (show 67≤549755813888 by omega))
  have KQ:Hid (wG 1000000 (mkRat s d.natAbs)):=by
   have hp:=zX s hdp;refine zh ⟨?_,?_⟩
   ·rw [hp.1,nu];exact Nat.le_trans mZ zo
   ·rw [hp.2];exact Nat.le_trans mZ zo
  obtain ⟨q,Eq⟩:∃ y:Rat,Hid (mkRat s d.natAbs=y):=⟨_,zh rfl⟩;rw [Eq.out] at KQ ⊢;obtain ⟨x,Ex⟩:∃ y:FrI,Hid (wr q=y):=⟨_,zh rfl⟩;rw [Ex.out];clear e;obtain ⟨⟨s1,t1⟩,e⟩:=x;rw [oP];clear h0 hz hdp hs S1 S2;go_enter Tryz.func192,Tryz.ntmps192
  go_wp2_with fail
  refine (HC.out _).mono ?_;rintro e v1 ⟨rfl,hc1⟩;have BR:=ah.later (ah.new _ _ _) hc1;have bQ:=BR.cell;have bL:=BR.free;have jE:=BR.lt;go_wp2_with fail
  refine (HD.out _).mono ?_;rintro e v2 ⟨rfl,hc2⟩;replace BR:=ah.later (BR) hc2;replace bQ:=BR.cell;replace bL:=BR.free;replace jE:=BR.lt;go_wp2_with fail
  refine (mE n HL1.out _).mono ?_;rintro e v3 ⟨v,rfl,hc3,hv⟩;obtain ⟨am5,lHN,ar7,rfl,HN⟩:=hv;replace HN:=zh HN;replace BR:=ah.later (BR) hc3;replace bQ:=BR.cell;replace bL:=BR.free;replace jE:=BR.lt;go_wp2_with fail
  refine (mE d HL2.out _).mono ?_;rintro e v4 ⟨v,rfl,hc4,hv⟩;obtain ⟨am6,lHM,ar8,rfl,HM⟩:=hv;replace HM:=zh HM;replace HN:=zh (aT.later HN.out hc4);replace BR:=ah.later (BR) hc4;replace bQ:=BR.cell;replace bL:=BR.free;replace jE:=BR.lt;go_wp2_with fail
  refine (jH _ d.natAbs _ aI).mono ?_;rintro e v5 ⟨rfl,rfl⟩;rw [HZ.out];go_wp2_with fail
  refine aC [(.pure,0),(.read,1),(.pure,2),(.read,3),(.pure,4),(.read,5),(.pure,6),(.pure,8),(.read,9),(.ext,7),(.ext,10),(.ext,11),(.pure,12),(.pure,13),(.fin,14),(.fin,15)] zk zk zR zP ?_;refine zV ?_;refine aL rfl rfl (fun w6 hb6 J hJ=>?_);go_simp;replace HM:=zh (aT.carry HM.out aI hb6);replace BR:ah _ (w.heap.size) _ _:=ah.later aH hb6;(try simp only [List.setIfInBounds_toArray,List.set_cons_zero,List.set_cons_succ] at BR);replace bQ:=BR.cell;replace bL:=BR.free;replace jE:=BR.lt;refine ((iy _ n.natAbs _ _ aI).mono (by rw [show (Bool.not (decide (n<0) == decide (d<0)))=f from Ef.out,Es.out];exact fun _ _ h=>h)).mono ?_;rintro e v6 ⟨v,rfl,hc6,hv⟩;obtain ⟨JI,lHs,JZ,rfl,Hs⟩:=hv;replace Hs:=zh Hs;replace HM:=zh (aT.later HM.out hc6);replace BR:=ah.later (BR) hc6;replace bQ:=BR.cell;replace bL:=BR.free;replace jE:=BR.lt;refine hJ _ _ hc6 ?_
  clear hJ J;refine aL rfl rfl (fun w7 qZ J hJ=>?_);go_simp;replace HM:=zh (aT.later HM.out qZ);replace Hs:=zh (aT.later Hs.out qZ);replace BR:=ah.later (BR) qZ;replace bQ:=BR.cell;replace bL:=BR.free;replace jE:=BR.lt;refine ((RZ _ _ s d.natAbs _ (gN.iL aI) aI HDP.out KS.out KD.out).mono (by rw [Eq.out];exact fun _ _ h=>h)).mono ?_;rintro e v7 ⟨v,rfl,Nn,hv⟩;obtain ⟨xI,Rm,xR,zN,Vu,Am,rfl,Hq,rM⟩:=hv;replace Hq:=zh Hq;replace rM:=zh rM;replace HM:=zh (aT.later HM.out Nn);replace Hs:=zh (aT.later Hs.out Nn);replace BR:=ah.later (BR) Nn;replace bQ:=BR.cell;replace bL:=BR.free;replace jE:=BR.lt;refine hJ _ _ Nn ?_;clear hJ J;refine aL rfl rfl (fun w8 Bd J hJ=>?_);go_simp;replace BR:=ah.later (BR) Bd;replace bQ:=BR.cell;replace bL:=BR.free;replace jE:=BR.lt
  refine ((nP _ q _ (jc.of aI aI) KQ.out (HT.out.later au)).mono (by rw [Ex.out,oP];exact fun _ _ h=>h)).mono ?_;rintro e v8 ⟨rfl,hc8⟩;replace BR:=ah.later (BR) hc8;replace bQ:=BR.cell;replace bL:=BR.free;replace jE:=BR.lt;refine hJ _ _ hc8 ?_;clear hJ J;refine zV ?_;refine dK [_,_] rfl (fun w9 DW=>?_);replace BR:=ah.later (BR) DW;replace bQ:=BR.cell;replace bL:=BR.free;replace jE:=BR.lt;go_wp2_with fail
  refine aK rfl rfl aH Tryz.underlying32 rfl zk ?_;exact ⟨rfl,au⟩
theorem VQ (z:Int) (h0: -9223372036854775808≤z) (h1:z≤9223372036854775807):(Lib.decDigits z.natAbs).length≤600 :=
 Nat.le_trans (nZ 19 z.natAbs zo zo) zo
theorem tZ (n d:Int) (n0: -9223372036854775808≤n) (n1:n≤9223372036854775807) (d0: -9223372036854775808≤d) (d1:d≤9223372036854775807) (w:World) (ht:jw.Pow w) :
  Calls Tryz.prog 115 #[.int .i64 n,.int .i64 d] w (fun e w'=>e= .returned (Fr.res (qE n d))∧Below w.heap.size w w'):=by
 have H1:=zh (fun w ht=>whole.CF n n0 n1 w ht);have H2:=zh (fun w ht=>whole.CF d d0 d1 w ht);have H3:=zh (fun w ht=>av4 n d (VQ n n0 n1) (VQ d d0 d1) w ht);have HT:=zh ht;clear ht n0 n1 d0 d1;obtain ⟨x,Ex⟩:∃ y:FrI,Hid (qE n d=y):=⟨_,zh rfl⟩;rw [Ex.out];obtain ⟨⟨s1,t1⟩,e⟩:=x;rw [oP];go_enter Tryz.func115,Tryz.ntmps115
 go_wp2_with fail
 refine ((H1.out _ (HT.out.later au)).mono (fun _ _ h=>by unfold dP at h;exact h)).mono ?_;rintro e v1 ⟨rfl,hc1⟩;have BR:=ah.later (ah.new _ _ _) hc1;have bQ:=BR.cell;have bL:=BR.free;have jE:=BR.lt;go_wp2_with fail
 refine ((H2.out _ (HT.out.later au)).mono (fun _ _ h=>by unfold dP at h;exact h)).mono ?_;rintro e v2 ⟨rfl,hc2⟩;replace BR:=ah.later (BR) hc2;replace bQ:=BR.cell;replace bL:=BR.free;replace jE:=BR.lt;go_wp2_with fail
 refine ((H3.out _ (HT.out.later au)).mono (by rw [Ex.out,oP];exact fun _ _ h=>h)).mono ?_;rintro e v3 ⟨rfl,hc3⟩;replace BR:=ah.later (BR) hc3;replace bQ:=BR.cell;replace bL:=BR.free;replace jE:=BR.lt;go_wp2_with fail
 refine aK rfl rfl aH Tryz.underlying32 rfl zk ?_;exact ⟨rfl,au⟩
theorem ZG (x y:Value) (p q:Rat) (w:World) (hx:jc w x p) (hy:jc w y q) (kp:wG 1000000 p) (kq:wG 1000000 q) :
  Calls Tryz.prog 64 #[x,y] w (fun e w'=>∃ v,e= .returned v∧Below w.heap.size w w'∧jc w' v (p*q)):=by
 obtain ⟨Po,lH,Qp,pbH,mH,cbH,rfl,H,Hd⟩:=hx;replace H:=zh H;replace Hd:=zh Hd;obtain ⟨paG,lG,caG,pbG,mG,cbG,rfl,G,Gd⟩:=hy;replace G:=zh G;replace Gd:=zh Gd;have HP:=zh (SV p q);have hp:=p.den_pos;have hq:=q.den_pos;have hg:0<p.num.natAbs.gcd q.den:=Nat.gcd_pos_of_pos_right _ hq;have hh:0<q.num.natAbs.gcd p.den:=Nat.gcd_pos_of_pos_right _ hp;obtain ⟨kp1,kp2⟩:=kp;obtain ⟨kq1,kq2⟩:=kq;obtain ⟨g,Eg⟩:∃ y:Nat,Hid (p.num.natAbs.gcd q.den=y):=⟨_,zh rfl⟩;rw [Eg.out] at hg HP;obtain ⟨h,Eh⟩:∃ y:Nat,Hid (q.num.natAbs.gcd p.den=y):=⟨_,zh rfl⟩;rw [Eh.out] at hh HP;have k1:= @mZ p.num.natAbs g;have k2:= @mZ p.den h;have k3:= @mZ q.num.natAbs h;have k4:= @mZ q.den g;obtain ⟨a,Ea⟩:∃ y:Nat,Hid (p.num.natAbs / g=y):=⟨_,zh rfl⟩;rw [Ea.out] at HP k1;obtain ⟨b,Eb⟩:∃ y:Nat,Hid (p.den / h=y):=⟨_,zh rfl⟩;rw [Eb.out] at HP k2;obtain ⟨c,Ec⟩:∃ y:Nat,Hid (q.num.natAbs / h=y):=⟨_,zh rfl⟩
 rw [Ec.out] at HP k3;obtain ⟨d,Ed⟩:∃ y:Nat,Hid (q.den / g=y):=⟨_,zh rfl⟩;rw [Ed.out] at HP k4;obtain ⟨s,Es⟩:∃ y:Nat,Hid (a*c=y):=⟨_,zh rfl⟩;rw [Es.out] at HP;obtain ⟨t,Et⟩:∃ y:Nat,Hid (b*d=y):=⟨_,zh rfl⟩;rw [Et.out] at HP;have HGp:=zh hg;have HHp:=zh hh;have Kpn:Hid (sz 1000000000 p.num.natAbs≤549755813888):=by unfold Hid;omega
 have Kqn:Hid (sz 1000000000 q.num.natAbs≤549755813888):=by unfold Hid;omega
 have Kpd:Hid (sz 1000000000 p.den≤549755813888):=by unfold Hid;omega
 have Kqd:Hid (sz 1000000000 q.den≤549755813888):=by unfold Hid;omega
 have Ka:Hid (sz 1000000000 a≤1099511627776):=by unfold Hid;omega
 have Kb:Hid (sz 1000000000 b≤1099511627776):=by unfold Hid;omega
 have Kc:Hid (sz 1000000000 c≤1099511627776):=by unfold Hid;omega
 have Kd:Hid (sz 1000000000 d≤1099511627776):=by unfold Hid;omega
 clear k1 k2 k3 k4 kp1 kp2 kq1 kq2 hg hh hp hq;go_enter Tryz.func64,Tryz.ntmps64
 go_wp2_with fail
 refine ((wQ _ _ p.num.natAbs q.den _ aI aI Kpn.out Kqd.out).mono (by rw [Eg.out];exact fun _ _ h=>h)).mono ?_;rintro e v1 ⟨v,rfl,hc1,hv⟩;obtain ⟨bJ8,lMg,bP3,rfl⟩:=hv.slice;have Mg:=zh hv;clear hv;replace H:=zh (aT.carry H.out aI hc1);replace Hd:=zh (aT.carry Hd.out aI hc1);replace G:=zh (aT.carry G.out aI hc1);replace Gd:=zh (aT.carry Gd.out aI hc1);have BR:=ah.later (ah.at2 _ _ _ _ _) hc1;have bQ:=BR.cell;have bL:=BR.free;have B1:=ah.later (ah.alloc (ah.qN _ _ _ _) _) hc1;have cB1:=B1.cell;have uG:=B1.free;have B0:=ah.later (ah.alloc (ah.alloc (ah.new _ _ _) _) _) hc1;have cB0:=B0.cell;have nE:=B0.free;go_wp2_with fail
 refine ((wQ _ _ q.num.natAbs p.den _ aI aI Kqn.out Kpd.out).mono (by rw [Eh.out];exact fun _ _ h=>h)).mono ?_;rintro e v2 ⟨v,rfl,hc2,hv⟩;obtain ⟨bJ7,lMh,bP2,rfl⟩:=hv.slice;have Mh:=zh hv;clear hv;replace H:=zh (aT.later H.out hc2);replace Hd:=zh (aT.later Hd.out hc2);replace G:=zh (aT.later G.out hc2);replace Gd:=zh (aT.later Gd.out hc2);replace Mg:=zh (aT.later Mg.out hc2);replace BR:=ah.later (BR) hc2;replace bQ:=BR.cell;replace bL:=BR.free;replace B1:=ah.later (B1) hc2;replace cB1:=B1.cell;replace uG:=B1.free;replace B0:=ah.later (B0) hc2;replace cB0:=B0.cell;replace nE:=B0.free;go_wp2_with fail
 refine ((ji _ _ p.num.natAbs g _ aI aI HGp.out Kpn.out).mono (by rw [Ea.out];exact fun _ _ h=>h)).mono ?_;rintro e v3 ⟨v,vr,rfl,hc3,hv,sH⟩;obtain ⟨bK2,lMa,bP7,rfl⟩:=hv.slice;have Ma:=zh hv;clear hv;obtain ⟨bA1,bM2,bD4,rfl⟩:=sH.slice;have Mar:=zh sH;clear sH;replace Hd:=zh (aT.later Hd.out hc3);replace G:=zh (aT.later G.out hc3);replace Gd:=zh (aT.later Gd.out hc3);replace Mg:=zh (aT.later Mg.out hc3);replace Mh:=zh (aT.later Mh.out hc3);replace BR:=ah.later (BR) hc3;replace bQ:=BR.cell;replace bL:=BR.free;replace B1:=ah.later (B1) hc3;replace cB1:=B1.cell;replace uG:=B1.free;replace B0:=ah.later (B0) hc3;replace cB0:=B0.cell;replace nE:=B0.free;go_wp2_with fail
 clear Mar H;refine ((ji _ _ p.den h _ aI aI HHp.out Kpd.out).mono (by rw [Eb.out];exact fun _ _ h=>h)).mono ?_;rintro e v4 ⟨v,vr,rfl,hc4,hv,sH⟩;obtain ⟨bK1,lMb,bP6,rfl⟩:=hv.slice;have Mb:=zh hv;clear hv;obtain ⟨bA0,bM1,bD3,rfl⟩:=sH.slice;have Mbr:=zh sH;clear sH;replace G:=zh (aT.later G.out hc4);replace Gd:=zh (aT.later Gd.out hc4);replace Mg:=zh (aT.later Mg.out hc4);replace Mh:=zh (aT.later Mh.out hc4);replace Ma:=zh (aT.later Ma.out hc4);replace BR:=ah.later (BR) hc4;replace bQ:=BR.cell;replace bL:=BR.free;replace B1:=ah.later (B1) hc4;replace cB1:=B1.cell;replace uG:=B1.free;replace B0:=ah.later (B0) hc4;replace cB0:=B0.cell;replace nE:=B0.free;go_wp2_with fail
 clear Mbr Hd;refine ((ji _ _ q.num.natAbs h _ aI aI HHp.out Kqn.out).mono (by rw [Ec.out];exact fun _ _ h=>h)).mono ?_;rintro e v5 ⟨v,vr,rfl,rE,hv,sH⟩;obtain ⟨bK0,lMc,bP5,rfl⟩:=hv.slice;have Mc:=zh hv;clear hv;obtain ⟨bz5,bM0,bD2,rfl⟩:=sH.slice;have Mcr:=zh sH;clear sH;replace Gd:=zh (aT.later Gd.out rE);replace Mg:=zh (aT.later Mg.out rE);replace Ma:=zh (aT.later Ma.out rE);replace Mb:=zh (aT.later Mb.out rE);replace BR:=ah.later (BR) rE;replace bQ:=BR.cell;replace bL:=BR.free;replace B1:=ah.later (B1) rE;replace cB1:=B1.cell;replace uG:=B1.free;replace B0:=ah.later (B0) rE;replace cB0:=B0.cell;replace nE:=B0.free;go_wp2_with fail
 clear Mcr G;refine ((ji _ _ q.den g _ aI aI HGp.out Kqd.out).mono (by rw [Ed.out];exact fun _ _ h=>h)).mono ?_;rintro e v6 ⟨v,vr,rfl,hc6,hv,sH⟩;obtain ⟨bJ9,lMd,bP4,rfl⟩:=hv.slice;have Md:=zh hv;clear hv;obtain ⟨bz4,bL9,bD1,rfl⟩:=sH.slice;have Mdr:=zh sH;clear sH;replace Ma:=zh (aT.later Ma.out hc6);replace Mb:=zh (aT.later Mb.out hc6);replace Mc:=zh (aT.later Mc.out hc6);replace BR:=ah.later (BR) hc6;replace bQ:=BR.cell;replace bL:=BR.free;replace B1:=ah.later (B1) hc6;replace cB1:=B1.cell;replace uG:=B1.free;replace B0:=ah.later (B0) hc6;replace cB0:=B0.cell;replace nE:=B0.free;go_wp2_with fail
 clear Mdr Gd;refine aC [(.pure,0),(.pure,1),(.pure,3),(.pure,4),(.read,5),(.pure,6),(.pure,7),(.read,8),(.pure,9),(.pure,11),(.pure,12),(.ext,2),(.ext,10),(.ext,13),(.pure,14),(.fin,15)] zk zk zR zP ?_;refine zV ?_;refine aL rfl rfl (fun w7 qZ J hJ=>?_);go_simp;replace Ma:=zh (aT.carry Ma.out aI qZ);replace Mb:=zh (aT.carry Mb.out aI qZ);replace Mc:=zh (aT.carry Mc.out aI qZ);replace Md:=zh (aT.carry Md.out aI qZ);replace BR:=ah.later (ah.drew BR) qZ;replace bQ:=BR.cell;replace bL:=BR.free;refine ((lW _ _ a c _ aI aI Ka.out Kc.out).mono (by rw [Es.out];exact fun _ _ h=>h)).mono ?_;rintro e v7 ⟨v,rfl,Nn,hv⟩;obtain ⟨bJ6,lMs,bP1,rfl⟩:=hv.slice;have Ms:=zh hv;clear hv;replace Ma:=zh (aT.later Ma.out Nn);replace Mb:=zh (aT.later Mb.out Nn);replace Mc:=zh (aT.later Mc.out Nn);replace Md:=zh (aT.later Md.out Nn)
 replace BR:=ah.later (BR) Nn;replace bQ:=BR.cell;replace bL:=BR.free;refine hJ _ _ Nn ?_;clear hJ J;refine aL rfl rfl (fun w8 Bd J hJ=>?_);go_simp;replace Mb:=zh (aT.later Mb.out Bd);replace Md:=zh (aT.later Md.out Bd);replace Ms:=zh (aT.later Ms.out Bd);replace BR:=ah.later (BR) Bd;replace bQ:=BR.cell;replace bL:=BR.free;refine (iy _ s _ _ aI).mono ?_;rintro e v8 ⟨v,rfl,hc8,hv⟩;obtain ⟨bJ4,lMv,bO9,rfl,Mv⟩:=hv;replace Mv:=zh Mv;replace Mb:=zh (aT.later Mb.out hc8);replace Md:=zh (aT.later Md.out hc8);replace Ms:=zh (aT.later Ms.out hc8);replace BR:=ah.later (BR) hc8;replace bQ:=BR.cell;replace bL:=BR.free;refine hJ _ _ hc8 ?_;clear hJ J;refine aL rfl rfl (fun w9 DW J hJ=>?_);go_simp;replace Mb:=zh (aT.later Mb.out DW);replace Md:=zh (aT.later Md.out DW);replace Mv:=zh (aT.later Mv.out DW)
 replace BR:=ah.later (BR) DW;replace bQ:=BR.cell;replace bL:=BR.free;refine ((lW _ _ b d _ aI aI Kb.out Kd.out).mono (by rw [Et.out];exact fun _ _ h=>h)).mono ?_;rintro e v9 ⟨v,rfl,Tw,hv⟩;obtain ⟨bJ5,lMt,bP0,rfl⟩:=hv.slice;have Mt:=zh hv;clear hv;replace Mb:=zh (aT.later Mb.out Tw);replace Md:=zh (aT.later Md.out Tw);replace Mv:=zh (aT.later Mv.out Tw);replace BR:=ah.later (BR) Tw;replace bQ:=BR.cell;replace bL:=BR.free;refine hJ _ _ Tw ?_;clear hJ J;refine zV ?_;refine dK [_] rfl (fun w14 aD7=>?_);replace BR:=ah.later (BR) aD7;replace bQ:=BR.cell;replace bL:=BR.free;go_wp2_with fail
 refine dG rfl rfl aH Tryz.underlying108 rfl zk ?_;exact ⟨_,rfl,au,jc.mk (kM s (!(decide (p.num<0) == decide (q.num<0)))).natAbs t aI aI (by rw [HP.out.1]) HP.out.2.symm (by rw [HP.out.1])⟩
theorem yJ (w:World) :
  Calls Tryz.prog 62 #[.agg #[.slice none 0 0,.bool false,.slice none 0 0],.int .i64 20] w (fun e w'=>e= .returned (.tuple #[.agg #[.string ⟨#[]⟩,.string ⟨#[]⟩],.int .i64 20])∧Below w.heap.size w w'):=by
 go_enter Tryz.func62,Tryz.ntmps62
 go_wp2_with fail
 refine aK rfl rfl aH Tryz.underlying32 rfl zk ?_;exact ⟨rfl,au⟩
theorem Bl (v:Value) (q:Rat) (w:World) (h:jc w v q) (k:wG 1000000 q) (ht:jw.Pow w) :
  Calls Tryz.prog 62 #[v,.int .i64 0] w (fun e w'=>e= .returned (Fr.res (wr q))∧Below w.heap.size w w'):=by
 obtain ⟨Po,lH,Qp,pbH,mH,cbH,rfl,H,Hd⟩:=h;replace H:=zh H;replace Hd:=zh Hd;have HT:=zh ht;have K:=zh k;clear ht k;obtain ⟨x,Ex⟩:∃ y:FrI,Hid (wr q=y):=⟨_,zh rfl⟩;rw [Ex.out];obtain ⟨⟨s,t⟩,e⟩:=x;rw [oP];go_enter Tryz.func62,Tryz.ntmps62
 go_wp2_with fail
 refine ((nP _ q _ (jc.of aI aI) K.out (HT.out.later au)).mono (by rw [Ex.out,oP];exact fun _ _ h=>h)).mono ?_;rintro e v1 ⟨rfl,hc1⟩;have BR:=ah.later (ah.qN _ _ _ _) hc1;have bQ:=BR.cell;have bL:=BR.free;have jE:=BR.lt;go_wp2_with fail
 refine aK rfl rfl aH Tryz.underlying32 rfl zk ?_;exact ⟨rfl,au⟩
theorem Yc (s t s' t':ByteArray) (w:World) (p q:Rat) (h:rd ⟨s,t⟩=some p) (k:rd ⟨s',t'⟩=some q) :
  Calls Tryz.prog 63 #[.agg #[.string s,.string t],.agg #[.string s',.string t'],.func (.func 64) #[] #[]] w (fun e w'=>∃ v,e= .returned (.tuple #[v,.int .i64 0])∧Below w.heap.size w w'∧jc w' v (p*q)):=by
 have HR:=zh (iW h);have HS:=zh (iW k);have KP:=zh ((mJ (oZ h).2).mono (show 67≤1000000 by omega));have KQ:=zh ((mJ (oZ k).2).mono (show 67≤1000000 by omega));clear h k;obtain ⟨r,Er⟩:∃ y:Rat,Hid (p*q=y):=⟨_,zh rfl⟩;rw [Er.out];go_enter Tryz.func63,Tryz.ntmps63
 go_wp2_with fail
 refine (HR.out _).mono ?_;rintro e v1 ⟨v,rfl,hc1,hv⟩;obtain ⟨Gx,ZT,Ja,JH,mHp,JY,rfl,Hp,rO⟩:=hv;replace Hp:=zh Hp;replace rO:=zh rO;have BR:=ah.later (ah.at2 _ _ _ _ _) hc1;have bQ:=BR.cell;have bL:=BR.free;have jE:=BR.lt;have B1:=ah.later (ah.alloc (ah.qN _ _ _ _) _) hc1;have cB1:=B1.cell;have uG:=B1.free;have lB1:=B1.lt;go_wp2_with fail
 refine (HS.out _).mono ?_;rintro e v2 ⟨v,rfl,hc2,hv⟩;obtain ⟨xI,Rm,xR,zN,Vu,Am,rfl,Hq,rM⟩:=hv;replace Hq:=zh Hq;replace rM:=zh rM;replace Hp:=zh (aT.carry Hp.out aI hc2);replace rO:=zh (aT.carry rO.out aI hc2);replace X1:ah _ (v1.heap.size) _ _:=ah.later aH hc2;(try simp only [List.setIfInBounds_toArray,List.set_cons_zero,List.set_cons_succ] at X1);replace aO:=X1.cell;replace aP:=X1.free;replace aN:=X1.lt;replace BR:ah _ (w.heap.size+1+1) _ _:=ah.later aH hc2;(try simp only [List.setIfInBounds_toArray,List.set_cons_zero,List.set_cons_succ] at BR);replace bQ:=BR.cell;replace bL:=BR.free;replace jE:=BR.lt;go_wp2_with fail
 refine ((ZG _ _ p q _ (jc.of aI aI) (jc.of aI aI) KP.out KQ.out).mono (by rw [Er.out];exact fun _ _ h=>h)).mono ?_;rintro e v3 ⟨v,rfl,hc3,hv⟩;obtain ⟨Na,lHr,NH,Sl,mHr,Uf,rfl,Hr,Cj⟩:=hv;replace Hr:=zh Hr;replace Cj:=zh Cj;replace BR:ah _ (w.heap.size+1+1) _ _:=ah.later aH hc3;(try simp only [List.setIfInBounds_toArray,List.set_cons_zero,List.set_cons_succ] at BR);replace bQ:=BR.cell;replace bL:=BR.free;replace jE:=BR.lt;go_wp2_with fail
 refine aK rfl rfl aH Tryz.underlying108 rfl zk ?_;exact ⟨_,rfl,au,jc.of aI aI⟩
theorem Ki (s t s' t':ByteArray) (w:World) (h:rd ⟨s,t⟩=none∨rd ⟨s',t'⟩=none) :
  Calls Tryz.prog 63 #[.agg #[.string s,.string t],.agg #[.string s',.string t'],.func (.func 64) #[] #[]] w (fun e w'=>e= .returned (.tuple #[.agg #[.slice none 0 0,.bool false,.slice none 0 0],.int .i64 20])∧Below w.heap.size w w'):=by
 cases h1:rd ⟨s,t⟩ with
 | none =>
  have HR:=zh (jy h1);cases k:rd ⟨s',t'⟩ with
  | none =>
   have HS:=zh (jy k);clear h k h1;go_enter Tryz.func63,Tryz.ntmps63
   go_wp2_with fail
   refine (HR.out _).mono ?_;rintro e v1 ⟨rfl,hc1⟩;have BR:=ah.later (ah.at2 _ _ _ _ _) hc1;have bQ:=BR.cell;have bL:=BR.free;have jE:=BR.lt;have B1:=ah.later (ah.alloc (ah.qN _ _ _ _) _) hc1;have cB1:=B1.cell;have uG:=B1.free;have lB1:=B1.lt;go_wp2_with fail
   refine (HS.out _).mono ?_;rintro e v2 ⟨rfl,hc2⟩;replace BR:ah _ (w.heap.size+1+1) _ _:=ah.later aH hc2;replace bQ:=BR.cell;replace bL:=BR.free;replace jE:=BR.lt;have q1:w.heap.size+1<v2.heap.size:=by omega
   go_wp2_with fail
   refine aK rfl rfl aH Tryz.underlying108 rfl zk ?_;exact ⟨rfl,au⟩
  | some q =>
   have HS:=zh (iW k);clear h k h1;go_enter Tryz.func63,Tryz.ntmps63
   go_wp2_with fail
   refine (HR.out _).mono ?_;rintro e v1 ⟨rfl,hc1⟩;have BR:=ah.later (ah.at2 _ _ _ _ _) hc1;have bQ:=BR.cell;have bL:=BR.free;have jE:=BR.lt;have B1:=ah.later (ah.alloc (ah.qN _ _ _ _) _) hc1;have cB1:=B1.cell;have uG:=B1.free;have lB1:=B1.lt;go_wp2_with fail
   refine (HS.out _).mono ?_;rintro e v2 ⟨v,rfl,hc2,hv⟩;obtain ⟨xI,Rm,xR,zN,Vu,Am,rfl,Hq,rM⟩:=hv;replace Hq:=zh Hq;replace rM:=zh rM;replace BR:ah _ (w.heap.size+1+1) _ _:=ah.later aH hc2;replace bQ:=BR.cell;replace bL:=BR.free;replace jE:=BR.lt;have q1:w.heap.size+1<v2.heap.size:=by omega
   go_wp2_with fail
   refine aK rfl rfl aH Tryz.underlying108 rfl zk ?_;exact ⟨rfl,au⟩
 | some p =>
  have HR:=zh (iW h1);cases k:rd ⟨s',t'⟩ with
  | none =>
   have HS:=zh (jy k);clear h k h1;go_enter Tryz.func63,Tryz.ntmps63
   go_wp2_with fail
   refine (HR.out _).mono ?_;rintro e v1 ⟨v,rfl,hc1,hv⟩;obtain ⟨Gx,ZT,Ja,JH,mHp,JY,rfl,Hp,rO⟩:=hv;replace Hp:=zh Hp;replace rO:=zh rO;have BR:=ah.later (ah.at2 _ _ _ _ _) hc1;have bQ:=BR.cell;have bL:=BR.free;have jE:=BR.lt;have B1:=ah.later (ah.alloc (ah.qN _ _ _ _) _) hc1;have cB1:=B1.cell;have uG:=B1.free;have lB1:=B1.lt;go_wp2_with fail
   refine (HS.out _).mono ?_;rintro e v2 ⟨rfl,hc2⟩;replace BR:ah _ (w.heap.size+1+1) _ _:=ah.later aH hc2;replace bQ:=BR.cell;replace bL:=BR.free;replace jE:=BR.lt;have q1:w.heap.size+1<v2.heap.size:=by omega
   go_wp2_with fail
   refine aK rfl rfl aH Tryz.underlying108 rfl zk ?_;exact ⟨rfl,au⟩
  | some q=>rw [h1,k] at h;simp at h
theorem Ci (a b:Fr) (w:World) (ht:jw.Pow w) :
  Calls Tryz.prog 18 #[a.v,b.v] w (fun e w'=>e= .returned (Fr.res (yL a b))∧Below w.heap.size w w'):=by
 obtain ⟨s,t⟩:=a;obtain ⟨s',t'⟩:=b
 show Calls _ _ #[.agg #[.string s,.string t],.agg #[.string s',.string t']] _ _
 unfold yL;have HT:=zh ht;clear ht
 by_cases hbad:rd ⟨s,t⟩=none∨rd ⟨s',t'⟩=none
 ·have e:∀ f,bin f ⟨s,t⟩ ⟨s',t'⟩=(Fr.no,20):=fun f=>by
   rcases hbad with h|h
   ·exact EO h
   ·exact EH h
  rw [e];have HA:=zh (fun w=>Ki s t s' t' w hbad);clear hbad e;go_enter Tryz.func18,Tryz.ntmps18
  go_wp2_with fail
  refine (HA.out _).mono ?_;rintro e v1 ⟨rfl,hc1⟩;have BR:=ah.later (ah.at2 _ _ _ _ _) hc1;have bQ:=BR.cell;have bL:=BR.free;have jE:=BR.lt;go_wp2_with fail
  refine (yJ _).mono ?_;rintro e v2 ⟨rfl,hc2⟩;replace BR:=ah.later (BR) hc2;replace bQ:=BR.cell;replace bL:=BR.free;replace jE:=BR.lt;go_wp2_with fail
  refine aK rfl rfl aH Tryz.underlying32 rfl zk ?_;exact ⟨rfl,au⟩
 ·obtain ⟨p,hp⟩:∃ p,rd ⟨s,t⟩=some p:=Option.ne_none_iff_exists'.1 (fun e=>hbad (.inl e));obtain ⟨q,hq⟩:∃ q,rd ⟨s',t'⟩=some q:=Option.ne_none_iff_exists'.1 (fun e=>hbad (.inr e));rw [Ap hp hq];have KP:=zh (mJ (oZ hp).2);have KQ:=zh (mJ (oZ hq).2);have HA:=zh (fun w=>Yc s t s' t' w p q hp hq);have KR:Hid (wG 1000000 (p*q)):=zh (wG.mono (k:=135) ((Vb KP.out KQ.out).mono zo) zo);clear hp hq hbad KP KQ;obtain ⟨r,Er⟩:∃ y:Rat,Hid (p*q=y):=⟨_,zh rfl⟩;simp only [Er.out] at KR HA ⊢;obtain ⟨x,Ex⟩:∃ y:FrI,Hid (wr r=y):=⟨_,zh rfl⟩;rw [Ex.out];obtain ⟨⟨s1,t1⟩,e⟩:=x;rw [oP];go_enter Tryz.func18,Tryz.ntmps18
  go_wp2_with fail
  refine (HA.out _).mono ?_;rintro e v1 ⟨v,rfl,hc1,hv⟩;obtain ⟨Na,lHr,NH,Sl,mHr,Uf,rfl,Hr,Cj⟩:=hv;replace Hr:=zh Hr;replace Cj:=zh Cj;have BR:=ah.later (ah.at2 _ _ _ _ _) hc1;have bQ:=BR.cell;have bL:=BR.free;have jE:=BR.lt;go_wp2_with fail
  refine ((Bl _ r _ (jc.of aI aI) KR.out (HT.out.later au)).mono (by rw [Ex.out,oP];exact fun _ _ h=>h)).mono ?_;rintro e v2 ⟨rfl,hc2⟩;replace BR:=ah.later (BR) hc2;replace bQ:=BR.cell;replace bL:=BR.free;replace jE:=BR.lt;go_wp2_with fail
  refine aK rfl rfl aH Tryz.underlying32 rfl zk ?_;exact ⟨rfl,au⟩
end Go.Proofs.fM
