/- Lemmas for the proof. No condition. -/
import Derived.Test.YtfhappbmgghgdaaGreatDoorNB01
import Derived.Test.YtfhappbmgghgdaaGreatDoorNB02
import Derived.Test.YtfhappbmgghgdaaGreatDoorNB03
import Derived.Test.YtfhappbmgghgdaaGreatDoorNB04
import Derived.Test.YtfhappbmgghgdaaGreatDoorNB06
import Derived.Laws.CopyOwn
import Derived.WalkMore
set_option linter.unusedVariables false
set_option linter.unusedSimpArgs false
set_option maxRecDepth 100000
set_option maxHeartbeats 16000000
namespace Go.Proofs.frac
open Go Go.RowKit Go.SW Go.Num Go.Mem Go.Proofs
def DivPost (w:World) (q r:Nat) (e:Ending) (w':World):Prop:=∃ vq vr,e= .returned (.tuple #[vq,vr])∧Below w.heap.size w w'∧Mag w' vq q∧Mag w' vr r
theorem _root_.Go.zs21 {G:Prop} (h:G:=by
 have HX:=zh hx
 have hs:=sgn_lt h
 rw [Nat.div_eq_of_lt h,Nat.mod_eq_of_lt h]
 have HC:=zh (compare_ok x y a b w hx hy)
 rw [hs] at HC
 clear hx hs hy h
 go_enter zq25,zq26
 go_wp2_with ((first|go_at_call 206|go_at_call 172);refine (HC.out).mono ?_;rintro e w1 ⟨rfl,hb1⟩)
 go_ret2
 exact ⟨_,_,rfl,hb1,Mag.zero _,HX.out.later hb1⟩):G:=h
theorem divide_less (x y:Value) (a b:Nat) (w:World) (hx:Mag w x a) (hy:Mag w y b) (h:a<b) :
  Calls Tryz.prog 154 #[x,y] w (DivPost w (a / b) (a%b)):=zs21
theorem _root_.Go.zs22 {G:Prop} (h:G:=by
 have hs:sgn a b=0∨sgn a b=1:=by
  rcases Nat.lt_or_ge b a with h2|h2
  ·exact .inr (sgn_gt h2)
  ·have:a=b:=by omega
   subst this;exact .inl (sgn_eq a)
 have hdb:digs 1000000000 b=[b]:=by rw [digs_pos zo hb0,Nat.mod_eq_of_lt hb1,Nat.div_eq_of_lt hb1,digs_zero]
 obtain ⟨p,c,e1, -, -, e3⟩:=Dgs.read hy.dgs
 rw [hdb] at e1 e3
 simp only [List.length_cons,List.length_nil,Value.slice.injEq] at e1
 obtain ⟨rfl, -, rfl⟩:=e1
 obtain ⟨b2,off,rfl,hb2,hcell⟩:=e3 0 zi
 have hcell2:w.cell? ⟨b2,off,none⟩=some (.int .u32 (b:Int)):=by simpa using hcell
 have HC:=zh (compare_ok _ _ a b w hx hy)
 have HX:=zh hx
 clear hdb hcell e3 hx hy
 have hmod:a%b<1000000000:=Nat.lt_trans (Nat.mod_lt _ hb0) hb1
 rcases hs with hs|hs
 all_goals
  rw [hs] at HC
  clear hs
  go_enter zq25,zq26
  go_wp2_with ((first|go_at_call 206|go_at_call 172);refine (HC.out).mono ?_;rintro e w1 ⟨rfl,hbl1⟩;have hc1:w1.cell? ⟨b2,off,none⟩=some (.int .u32 (b:Int)):=(hbl1.cell (by exact hb2)).trans hcell2)
  refine (short_ok _ a b _ (HX.out.later hbl1) zo hb0 zo).mono ?_
  rintro e w2 ⟨v,rfl,hbl2,hv⟩
  have HV:=zh hv
  clear hv
  generalize hm:a%b=m at *
  have HM:=zh hm
  clear hm
  go_wp2_with fail
  refine (fromSmall_ok m _ zo).mono ?_
  rintro e w3 ⟨v3,rfl,hbl3,hv3⟩
  have HV3:=zh hv3
  clear hv3
  go_wp2_with fail
  go_ret2
  exact ⟨_,_,rfl,Bt (Bt hbl1 hbl2) hbl3,HV.out.later hbl3,HV3.out⟩):G:=h
theorem divide_short (pa pb:Option Addr) (ca cb:Nat) (a b:Nat) (w:World) (hx:Mag w (.slice pa (sz 1000000000 a) ca) a) (hy:Mag w (.slice pb 1 cb) b) (hb0:0<b) (hb1:b<1000000000) (h:b≤a) (ha:sz 1000000000 a≤549755813888) :
  Calls Tryz.prog 154 #[.slice pa (sz 1000000000 a) ca,.slice pb 1 cb] w (DivPost w (a / b) (a%b)):=zs22
theorem _root_.Go.zs23 {G:Prop} (h:G:=by
 obtain ⟨i0,hi,hz0,hz1,hz2⟩:=info_parts infoU
 have hs:sgn a b=0∨sgn a b=1:=by
  rcases Nat.lt_or_ge b a with h2|h2
  ·exact .inr (sgn_gt h2)
  ·have:a=b:=by omega
   subst this;exact .inl (sgn_eq a)
 have hb0:0<b:=by
  rcases Nat.eq_zero_or_pos b with h0|h0
  ·rw [h0,sz_zero] at hsb;omega
  ·exact h0
 have hkl:k+2≤sz 1000000000 a:=by rw [← hsb];exact sz_mono zo h
 obtain ⟨ht0,htB,hs0,hs5,hsv,htv⟩:=scale_facts hsb
 obtain ⟨hd1,hd2,hd3,hd4,hd5⟩:=dividend (a:=a) hs0 zo hsb hkl
 obtain ⟨p,c,e1, -, -, e3⟩:=Dgs.read hy.dgs
 have hlb:(digs 1000000000 b).length=k+2:=hsb
 rw [hlb] at e1 e3
 simp only [Value.slice.injEq] at e1
 obtain ⟨rfl, -, rfl⟩:=e1
 obtain ⟨b2,off,rfl,hb2,hcell⟩:=e3 (k+1) zo
 have HC:=zh (compare_ok _ _ a b w hx hy)
 have HX:=zh hx
 have HY:=zh hy
 have HSV:=zh hsv
 have HTV:=zh htv
 have HD4:=zh hd4
 have HD5:=zh hd5
 have HD2:=zh hd2
 have HSB:=zh hsb
 clear e3 hx hy hsv htv hd4 hd5 hd2 hsb hlb
 have htop:=HSB.out
 generalize hT:(digs 1000000000 b).getD (k+1) 0=t at *
 clear hT htop
 have hdiv:((1000000000 / (t+1):Nat):Int)=1000000000 / ((t:Int)+1):=by rw [Int.natCast_ediv];rfl
 have hsc1:(0:Int)≤1000000000 / ((t:Int)+1):=by rw [← hdiv];exact Int.natCast_nonneg _
 generalize hS:1000000000 / (t+1)=S at *
 have hsc2:1000000000 / ((t:Int)+1)≤500000000:=by rw [← hdiv];omega
 have HDV:=zh hdiv
 have HSq:=zh hS
 clear hdiv hS
 generalize hus:digs 1000000000 (a*S)++List.replicate (sz 1000000000 a+1 - sz 1000000000 (a*S)) 0=us at *
 have HUS:=zh hus
 clear hus
 generalize hL:sz 1000000000 a=L at *
 have HL:=zh hL
 clear hL
 rcases hs with hs|hs
 all_goals
  rw [hs] at HC
  clear hs
  go_enter zq25,zq26
  go_wp2_with ((first|go_at_call 206|go_at_call 172);refine (HC.out).mono ?_;rintro e w1 ⟨rfl,hbl1⟩;have hc1:w1.cell? ⟨b2,off+(k+1),none⟩=some (.int .u32 (t:Int)):=(hbl1.cell (by exact hb2)).trans hcell)
  rw [← HDV.out]
  refine (times_ok _ _ b S _ ((HY.out.later hbl1).later ((Below.refl _ _).alloc (Nat.le_refl _) _)) (Mag.lit hs0 zo) (by rw [HSB.out];omega) (by have:=sz_le_of_lt (B:=1000000000) zo 1 S zo;omega)).mono ?_
  rintro e w2 ⟨vv,rfl,hbl2,hv⟩
  have hbw2:Below w.heap.size w w2:=Bt (Bt hbl1 ((Below.refl _ _).alloc (Nat.le_refl _) _)) hbl2
  obtain ⟨pv,cv,rfl,hv1,hv2,hv3⟩:=Dgs.read hv.dgs
  have HVR:=zh hv3
  have hvl:(digs 1000000000 (b*S)).length=k+2:=HSV.out
  rw [hvl] at hv1 ⊢
  have HVL:=zh hvl
  clear hv hv3 hvl hc1 hbl2
  go_wp2_with (at_make;refine wpList_make_full _ rfl _ _ zq5 rfl w2.heap.size 65 i0 (.int .u32 0) 1 zq6 hi hz0 hz1 _ _ _ _ (L+1) rfl rfl zo zo (by rw [hz2];omega) (by unfold maxLen;omega) (Nat.le_refl _) ?_)
  intro w3 hown3 hgrow3
  rw [made_u32] at hown3
  have hbx3:=zh (box_of_owns hown3).1
  have hb23:Below w2.heap.size w2 w3:=(Below.refl _ _).grown hgrow3 (Nat.le_refl _) (fun k h=>by cases h)
  clear hown3 hgrow3
  go_wp2_with fail
  refine (times_ok _ _ a S _ ((HX.out.later (Bt hbw2 hb23)).later ((Below.refl _ _).alloc (Nat.le_refl _) _)) (Mag.lit hs0 zo) (by rw [HL.out];omega) (by have:=sz_le_of_lt (B:=1000000000) zo 1 S zo;omega)).mono ?_
  rintro e w4 ⟨vt,rfl,hbl4,hvt⟩
  obtain ⟨pt,ct,rfl,ht1,ht2,ht3⟩:=Dgs.read hvt.dgs
  have hb34:Below w3.heap.size w3 w4:=Bt ((Below.refl _ _).alloc (Nat.le_refl _) _) hbl4
  have hbx4:=zh (hbx3.out.later hb34)
  have hb24:=Bt hb23 hb34
  have HTS:=zh (fun h=>Dgs.src ht3 h)
  clear hvt ht3 hbl4 hbx3
  go_wp2_with (refine wpList_copy_splice (o:=⟨some 54,_,_,_,_,_⟩) rfl (.tmp 49) (.tmp 53) zq5 zq5 rfl 65 zq6 (by rw [hi];simp [hz1]) _ _ _ _ _ _ rfl rfl w2.heap.size 0 (u32s (List.replicate (L+1) 0)) 65 hbx4.out (u32s (digs 1000000000 (a*S))) (by rw [u32s_length];exact (Nat.min_eq_left hd1).symm) (fun h=>⟨rfl,HTS.out h⟩) (by rw [Nat.zero_add,u32s_length,u32s_length,List.length_replicate];exact hd1) (u32s_oneCell _) w2.heap.size w2 hb24 (Nat.le_refl _) ?_)
  intro w5 hbx5 hb25
  have hbx5':Hid (Box w5 w2.heap.size (u32s us).toArray 65):=by
   have h1:=hbx5.out
   unfold splice at h1
   have e:List.take 0 (u32s (List.replicate (L+1) 0))++(u32s (digs 1000000000 (a*S))++List.drop (0+(u32s (digs 1000000000 (a*S))).length) (u32s (List.replicate (L+1) 0)))=u32s us:=by
    rw [← HUS.out]
    unfold u32s sz
    simp
   rw [e] at h1
   exact h1
  have hg5:w2.heap.size<w5.heap.size:=Box.lt hbx5'.out
  clear hbx5 hbx4 HTS
  go_wp2_with (at_make;refine wpList_make_full _ rfl _ _ zq5 rfl w5.heap.size 65 i0 (.int .u32 0) 1 zq6 hi hz0 hz1 _ _ _ _ (L - (k+2)+1) rfl rfl zo zo (by rw [hz2];omega) (by unfold maxLen;omega) (Nat.le_refl _) ?_)
  intro w6 hown6 hgrow6
  rw [made_u32] at hown6
  have hbh6:=zh (box_of_owns hown6).1
  have hb56:Below w5.heap.size w5 w6:=(Below.refl _ _).grown hgrow6 (Nat.le_refl _) (fun k h=>by cases h)
  have hbg6:=zh (hbx5'.out.later hb56)
  have hb26:Below w2.heap.size w2 w6:=hb25.trans (hb56.mono (Nat.le_of_lt hg5))
  clear hown6 hgrow6 hbx5' hb56
  go_wp2_with fail
  go_loopw [12] (fun jv wr=>∃ (q:Int) (s qs:List Nat), -1≤q∧q≤(L:Int) - ((k:Int)+2)∧jv= .int .i64 q∧Hid (s.length=k+2)∧Dig 1000000000 s∧Dig 1000000000 qs∧Hid (qs.length+(q+1).toNat=L - (k+2)+1) ∧
    Hid (Box wr w2.heap.size (u32s (us.take (q+1).toNat++(s++List.replicate (L+1 - (q+1).toNat - (k+2)) 0))).toArray 65)∧Hid (Box wr w5.heap.size (u32s (List.replicate (q+1).toNat 0++qs)).toArray 65) ∧
    Hid (val 1000000000 (us.drop (q+1).toNat)=b*S*val 1000000000 qs+val 1000000000 s)∧Hid (val 1000000000 s<b*S)∧Below w2.heap.size w2 wr) (fun jv _=>(intOf jv+1).toNat)
  case atStart =>
   have e:((L:Int) - ((k:Int)+2)+1).toNat=L - (k+2)+1:=by omega
   refine ⟨(L:Int) - ((k:Int)+2),us.drop (L - (k+2)+1),[],by omega,Int.le_refl _,rfl,zh (by rw [List.length_drop,HD2.out];omega),hd3.drop _,Dig.nil,zh (by rw [e];simp),zh ?_,zh ?_,zh (by rw [e];simp [val]),HD5,hb26⟩
   ·rw [e,show L+1 - (L - (k+2)+1) - (k+2)=0 by omega,List.replicate_zero,List.append_nil,List.take_append_drop];exact hbg6.out
   ·rw [e,List.append_nil];exact hbh6.out
  case round =>
   clear hbg6 hbh6 hb26 hb25 hb24 hb23 hb34
   obtain ⟨q,s,qs,hq1,hq2,rfl,HSL,hds,hdq,HQL,HBG,HBH,HVE,HVL2,hbr⟩:=hrel
   by_cases hq:q<0
   ·have hq0:q= -1:=by omega
    subst hq0
    have e0:((-1:Int)+1).toNat=0:=by omega
    rw [e0] at HBG HBH HVE HQL
    simp only [List.take_zero,List.nil_append,List.replicate_zero,List.drop_zero,Nat.add_zero,Nat.sub_zero] at HBG HBH HVE HQL
    have HE:=zh (long_end hs0 (by rw [← HD4.out];exact HVE.out) HVL2.out)
    have hbw:Below w.heap.size w wr:=Bt hbw2 hbr
    have hDu:=zh (Dgs.of_box (n:=k+2) (m:=L+1) HBG.out HSL.out zo zo)
    have hDq:=zh (Dgs.of_box (n:=L - (k+2)+1) (m:=L - (k+2)+1) (post:=[]) (by rw [List.append_nil];exact HBH.out) HQL.out zo zo)
    have hle:val 1000000000 s / S≤b:=by rw [HE.out.2];exact Nat.le_of_lt (Nat.mod_lt _ hb0)
    have hsz:sz 1000000000 (val 1000000000 s)≤k+2:=sz_le_of_lt zo _ _ (by have:=val_lt (by omega:0<1000000000) hds;rwa [HSL.out] at this)
    go_wp2_with fail
    refine (trim_ok _ _ _ hDu.out hds).mono ?_
    rintro e w' ⟨v1,rfl,rfl,hv1⟩
    go_wp2_with fail
    refine (short_ok _ _ S _ hv1 zo hs0 zo).mono ?_
    rintro e w7 ⟨v2,rfl,hb7,hv2⟩
    have HV2:=zh hv2
    clear hv2
    go_wp2_with fail
    refine (trim_ok _ _ _ (hDq.out.later hb7) hdq).mono ?_
    rintro e w' ⟨v3,rfl,rfl,hv3⟩
    have HV3:=zh hv3
    clear hv3
    go_wp2_with fail
    go_ret2
    exact ⟨v3,v2,rfl,Bt hbw hb7,by rw [← HE.out.1];exact HV3.out,by rw [← HE.out.2];exact HV2.out⟩
   ·obtain ⟨j,rfl⟩:=Int.eq_ofNat_of_zero_le (by omega:0≤q)
    have ej:((j:Int)+1).toNat=j+1:=by omega
    rw [ej] at HBG HBH HVE HQL
    have hjl:j<us.length:=by rw [HD2.out];omega
    go_wp2_with fail
    rw [show j+(k+2)+1 - j=k+3 by omega]
    have hux:us.getD j 0<1000000000:=hd3.getD zo j
    have e1:us.take (j+1)++(s++List.replicate (L+1 - (j+1) - (k+2)) 0)=us.take j++(us.getD j 0::s)++List.replicate (L+1 - (j+1) - (k+2)) 0:=by rw [take_succ_getD hjl];simp
    rw [e1] at HBG
    have HW:=zh (window_lt hux HVL2.out)
    refine (reduce_walk w2.heap.size j k (L+1 - j) pv cv (us.take j) (us.getD j 0::s) (List.replicate (L+1 - (j+1) - (k+2)) 0) (digs 1000000000 (b*S)) wr (by rw [List.length_take];omega) (by simp [HSL.out]) HVL.out (hds.cons hux) (dig_digs zo _) zo HTV.out (by rw [val_digs zo];exact HW.out) HBG.out (fun i hi=>?_)).mono ?_
    ·obtain ⟨b',off',e1,h1,h2⟩:=HVR.out i (by rw [HVL.out];exact hi)
     exact ⟨b',off',e1,Nat.ne_of_lt h1,Nat.lt_of_lt_of_le h1 hbr.size,(hbr.cell (by exact h1)).trans h2⟩
    ·rintro e wx ⟨rfl,hnear,s',hB',hs'l,hs'd,hs'v⟩
     rw [val_digs zo] at hs'v ⊢
     have HB':=zh hB'
     have HS'V:=zh hs'v
     have HS'L:=zh hs'l
     have hbx:Below w2.heap.size w2 wx:=below_of_near hbr hnear hbr.size (Nat.le_refl _)
     have hBx:Box wx w5.heap.size (u32s (List.replicate (j+1) 0++qs)).toArray 65:=(hnear.block _ (Box.lt HBH.out) (by simp;omega)).trans HBH.out
     have HBX:=zh hBx
     clear hB' hs'v hs'l hBx
     generalize hqh:val 1000000000 (us.getD j 0::s) / (b*S)=qh at *
     have HQH:=zh hqh
     clear hqh
     have HQ0:wx.cell? ⟨w5.heap.size,j,none⟩=some (.int .u32 0):=by
      rw [HBX.out.cell,List.getElem?_toArray,u32s_get (by simp;omega),getD_high zo];rfl
     have HQF:wx.frozen? ⟨w5.heap.size,j,none⟩=false:=HBX.out.free _
     go_wp2_with fail
     have hbs:0<b*S:=Nat.mul_pos hb0 hs0
     have hqd:qh<1000000000:=by rw [← HQH.out];exact Nat.div_lt_of_lt_mul HW.out
     have ej2:((j:Int) - 1+1).toNat=j:=by omega
     have hbo:((⟨w5.heap.size,j,none⟩:Addr).block)=w5.heap.size:=rfl
     refine ⟨⟨(j:Int) - 1,s',qh::qs,by omega,by omega,rfl,HS'L,hs'd,hdq.cons hqd,zh ?_,zh ?_,zh ?_,zh ?_,zh ?_,?_⟩,?_⟩
     ·rw [ej2,List.length_cons];have:=HQL.out;omega
     ·have h1:=HB'.out.setOther (a:=⟨w5.heap.size,j,none⟩) (.int .u32 (qh:Int)) (by simp;omega)
      rw [ej2]
      have e2:us.take j++(s'++[0])++List.replicate (L+1 - (j+1) - (k+2)) 0=us.take j++(s'++List.replicate (L+1 - j - (k+2)) 0):=by
       rw [show L+1 - j - (k+2)=(L+1 - (j+1) - (k+2))+1 by omega,List.replicate_succ];simp
      rw [e2] at h1
      exact h1
     ·have h1:=HBX.out.set j (.int .u32 (qh:Int))
      rw [List.setIfInBounds_toArray,u32s_set,set_high] at h1
      rw [ej2]
      exact h1
     ·rw [ej2]
      exact long_step hjl HVE.out HQH.out.symm HS'V.out
     ·rw [HS'V.out];exact Nat.mod_lt _ hbs
     ·exact hbx.setCell (by simp;omega) _
     ·simp only [intOf];omega):G:=h
theorem divide_long (pa pb:Option Addr) (ca cb:Nat) (a b k:Nat) (w:World) (hx:Mag w (.slice pa (sz 1000000000 a) ca) a) (hy:Mag w (.slice pb (k+2) cb) b) (hsb:sz 1000000000 b=k+2) (h:b≤a) (ha:sz 1000000000 a≤549755813888) :
  Calls Tryz.prog 154 #[.slice pa (sz 1000000000 a) ca,.slice pb (k+2) cb] w (DivPost w (a / b) (a%b)):=zs23
theorem _root_.Go.zs24 {G:Prop} (h:G:=by
 rcases Nat.lt_or_ge a b with h|h
 ·exact divide_less x y a b w hx hy h
 ·obtain ⟨p,c,e1, -, -, -⟩:=Dgs.read hx.dgs
  obtain ⟨q,d,e2, -, -, -⟩:=Dgs.read hy.dgs
  have hp:sz 1000000000 b≠0:=fun h0=>by
   have:=(digs_eq_nil (B:=1000000000) zo (n:=b)).mp (List.length_eq_zero_iff.mp h0)
   omega
  have e3:(digs 1000000000 b).length=sz 1000000000 b:=rfl
  rw [e3] at e2
  subst e1
  rcases Nat.lt_or_ge (sz 1000000000 b) 2 with h2|h2
  ·have h1:sz 1000000000 b=1:=by omega
   rw [h1] at e2
   subst e2
   have:=lt_pow_sz (B:=1000000000) zo b
   rw [h1] at this
   exact divide_short p q c d a b w hx hy hb zo h ha
  ·obtain ⟨k,hk⟩:∃ k,sz 1000000000 b=k+2:=⟨sz 1000000000 b - 2,by omega⟩
   rw [hk] at e2
   subst e2
   exact divide_long p q c d a b k w hx hy hk h ha):G:=h
theorem divide_ok (x y:Value) (a b:Nat) (w:World) (hx:Mag w x a) (hy:Mag w y b) (hb:0<b) (ha:sz 1000000000 a≤549755813888) :
  Calls Tryz.prog 154 #[x,y] w (DivPost w (a / b) (a%b)):=zs24
end Go.Proofs.frac
namespace Go.Proofs.frac
open Go Go.RowKit Go.SW Go.Num Go.Mem Go.Proofs Go.Proofs.Bld Go.Dec
theorem _root_.Go.zs25 {G:Prop} (h:G:=by
 have hlen:=dec_len_le 9 d zo hd
 have H:=zh h
 have HT:=zh ht
 clear h ht
 go_enter zq27,zq28
 go_wp2_with (go_at_call 175;refine (itoa_ok d hd _ HT.out).mono ?_;rintro e w1 ⟨rfl,hb1⟩)
 have HL:=zh hlen
 generalize hL:(Lib.decDigits d).length=L at *
 have HLe:=zh hL
 clear hL
 go_loopw [13] (fun jv wr=>∃ i:Nat,jv= .int .i64 (i:Int)∧Hid (i=0∨i+L≤wd)∧Hid (IsB B b (Lib.byteCells (l++List.replicate i 48)) wr)∧Below B w wr) (fun jv _=>wd - (intOf jv).toNat)
 case atStart =>
  exact ⟨0,rfl,zh (.inl rfl),zh (by simpa using H.out.later hb1),hb1.mono hB⟩
 case round =>
  obtain ⟨i,rfl,HI,HB,hbr⟩:=hrel
  have hcells:Lib.byteCells (l++List.replicate i 48)++[.int .u8 48]=Lib.byteCells (l++List.replicate (i+1) 48):=by
   rw [List.replicate_succ',← List.append_assoc,Lib.byteCells_append _ [48]];rfl
  by_cases hlt:i+L<wd
  ·go_wp2_with (go_at_call 177;refine (writeByte_ok B b _ 48 _ HB.out (by rw [Lib.byteCells_length];simp;omega) (Nat.le_trans hB hbr.size)).mono ?_;rintro e w2 ⟨rfl,h2,hb2⟩;rw [hcells] at h2)
   exact ⟨⟨i+1,by simp,zh (.inr zo),zh (.inr h2),hbr.trans hb2⟩,by simp [intOf];omega⟩
  ·have hi:i=wd - L:=by
    rcases HI.out with h|h
    ·omega
    ·omega
   have hsz:(⟨(Lib.decDigits d).toArray⟩:ByteArray).size=L:=HLe.out
   go_wp2_with (go_at_call 106;refine (writeString_ok B b _ _ _ HB.out (by rw [Lib.byteCells_length,hsz];simp;omega) (Nat.le_trans hB hbr.size)).mono ?_;rintro e w2 ⟨rfl,h2,hb2⟩)
   go_end0
   refine ⟨rfl,.inr ?_,hbr.trans hb2⟩
   rw [HLe.out,← hi,← List.append_assoc,Lib.byteCells_append]
   exact h2):G:=h
theorem put_ok (B b d wd:Nat) (l:List UInt8) (w:World) (h:IsB B b (Lib.byteCells l) w) (hB:B≤w.heap.size) (hw:wd≤9) (hd:d<1000000000) (hl:l.length≤140737488355000) (ht:Pow w) :
  Calls Tryz.prog 238 #[.int .u32 d,.int .i64 wd,.pointer (some ⟨b,0,none⟩)] w fun e w'=>e= .returned (.tuple #[])∧IsB B b (Lib.byteCells (l++(List.replicate (wd - (Lib.decDigits d).length) 48++Lib.decDigits d))) w'∧Below B w w':=zs25
def TextPost (w:World) (n:Nat) (e:Ending) (w':World):Prop:=e= .returned (.string ⟨(Lib.decDigits n).toArray⟩)∧Below w.heap.size w w'
theorem _root_.Go.zs26 {G:Prop} (h:G:=by
 have hd:=dig_digs (B:=1000000000) zo a
 have htop:=top_digs (B:=1000000000) zo a
 have hva:=val_digs (B:=1000000000) zo a
 unfold sz at ha
 rcases Nat.eq_zero_or_pos a with h0|h0
 ·subst h0
  have H:=zh hx
  clear hx
  go_enter zq29,zq30
  go_wp2_with ((first|go_at_call 207|go_at_call 78);refine (zero_ok _ _ _ H.out).mono ?_;rintro e w1 ⟨rfl,rfl⟩)
  go_ret
  exact ⟨by rw [dec_small zo];rfl,Below.refl _ _⟩
 ·obtain ⟨p,c,rfl,hc1,hc2,hread⟩:=Dgs.read hx.dgs
  generalize hl:digs 1000000000 a=l at *
  have hne:l≠[]:=fun e=>by rw [e] at hva;simp [val] at hva;omega
  obtain ⟨n,hn⟩:∃ n,l.length=n+1:=⟨l.length - 1,by have:=List.length_pos_iff.mpr hne;omega⟩
  have H:=zh hx
  have HR:=zh hread
  have HV:=zh hva
  have HN:=zh hn
  have HL:=zh hl
  have HT:=zh ht
  rw [hn] at ha hc1 ⊢
  have ha0:decide (a=0)=false:=by simp;omega
  clear hx hread hva hl ht hn
  obtain ⟨b,off,rfl,hb,hcell⟩:=HR.out n (by have:=HN.out;omega)
  have hpos:∀ i,i≤n→0<val 1000000000 (l.drop i):=fun i hi=>val_pos_of_top zo (top_drop htop i) (fun e=>by have:=congrArg List.length e;rw [List.length_drop,HN.out] at this;simp at this;omega)
  have hdl:∀ i,(Lib.decDigits (val 1000000000 (l.drop i))).length≤9*(n+1)+1:=fun i=>by
   have h1:=dec_len_val (hd.drop i)
   rw [List.length_drop,HN.out] at h1
   omega
  have HP:=zh hpos
  have HDL:=zh hdl
  clear hpos hdl
  have hd0:val 1000000000 (l.drop n)=l.getD n 0:=by
   rw [drop_getD (by have:=HN.out;omega),List.drop_eq_nil_of_le (by have:=HN.out;omega)]
   simp [val]
  have hdb:=hd.getD zo n
  generalize hdn:l.getD n 0=dn at *
  have HDN:=zh hdn
  have HD0:=zh hd0
  clear hdn hd0
  have hbo:Below w.heap.size w (w.alloc (.cells #[.pointer none,.slice none 0 0] 174 (0,0))):=(Below.refl _ _).alloc (Nat.le_refl _) _
  have hcw:(w.alloc (.cells #[.pointer none,.slice none 0 0] 174 (0,0))).cell? ⟨b,off+n,none⟩=some (.int .u32 (dn:Nat)):=(hbo.cell (by exact hb)).trans hcell
  have hb0:IsB w.heap.size w.heap.size (Lib.byteCells []) (w.alloc (.cells #[.pointer none,.slice none 0 0] 174 (0,0))):=Lib.fresh_isBuilder _ _ w
  have HB0:=zh hb0
  clear hb0
  go_enter zq29,zq30
  go_wp2_with ((first|go_at_call 207|go_at_call 78);refine (zero_ok _ a _ (by rw [← HN.out];exact H.out)).mono ?_;rintro e w1 ⟨rfl,rfl⟩;rw [ha0])
  refine (put_ok _ _ dn 0 [] _ HB0.out zi zo hdb zi (HT.out.later hbo)).mono ?_
  rintro e w2 ⟨rfl,h2,hb2⟩
  rw [Nat.zero_sub,List.replicate_zero,List.nil_append,List.nil_append,← HD0.out] at h2
  have H2:=zh h2
  have hbw2:Below w.heap.size w w2:=hbo.trans hb2
  clear h2
  go_wp2_with fail
  go_loopw [6] (fun jv wr=>∃ i:Nat,jv= .int .i64 ((i:Int) - 1)∧i≤n∧Hid (IsB w.heap.size w.heap.size (Lib.byteCells (Lib.decDigits (val 1000000000 (l.drop i)))) wr)∧Below w.heap.size w wr) (fun jv _=>(intOf jv+1).toNat)
  case atStart=>exact ⟨n,rfl,Nat.le_refl _,H2,hbw2⟩
  case round =>
   obtain ⟨i,rfl,hi,HB,hbr⟩:=hrel
   rcases Nat.eq_zero_or_pos i with h1|h1
   ·subst h1
    rw [List.drop_zero,HV.out] at HB
    go_wp2_with fail
    refine (Tryz.Builder_String_any _ _ _ _ HB.out hbr.size).mono ?_
    rintro e w3 ⟨rfl,hb3⟩
    go_wp2_with fail
    go_ret
    exact ⟨rfl,hbr.trans hb3⟩
   ·obtain ⟨j,rfl⟩:∃ j,i=j+1:=⟨i - 1,by omega⟩
    have hj:j<l.length:=by have:=HN.out;omega
    obtain ⟨b',off',e1,hb',hcell'⟩:=HR.out j hj
    simp only [Option.some.injEq,Addr.mk.injEq,and_true] at e1
    obtain ⟨rfl,rfl⟩:=e1
    have hcr:=(hbr.cell (p:=⟨b,off+j,none⟩) (by exact hb)).trans hcell'
    have hjb:=hd.getD zo j
    have HG:=zh (dec_group hj hd (HP.out (j+1) hi))
    generalize hdj:l.getD j 0=dj at *
    have HDJ:=zh hdj
    clear hdj hcell'
    go_wp2_with fail
    refine (put_ok _ _ dj 9 _ _ HB.out hbr.size zo hjb (by have:=HDL.out (j+1);omega) (HT.out.later hbr)).mono ?_
    rintro e w3 ⟨rfl,h3,hb3⟩
    rw [← HG.out] at h3
    have H3:=zh h3
    clear h3
    go_wp2_with fail
    refine ⟨⟨j,rfl,by omega,H3,hbr.trans hb3⟩,?_⟩
    simp only [intOf]
    omega):G:=h
theorem digits_ok (x:Value) (a:Nat) (w:World) (hx:Mag w x a) (ha:sz 1000000000 a≤1099511627776) (ht:Pow w) :
  Calls Tryz.prog 202 #[x] w (TextPost w a):=zs26
theorem _root_.Go.zs27 {G:Prop} (h:G:=by
 have hd:=dig_digs (B:=1000000000) zo a
 have htop:=top_digs (B:=1000000000) zo a
 have hva:=val_digs (B:=1000000000) zo a
 unfold sz at ha
 rcases Nat.eq_zero_or_pos a with h0|h0
 ·subst h0
  have H:=zh hx
  clear hx
  rw [dec_small zo]
  go_enter zq31,zq32
  go_wp2_with ((first|go_at_call 207|go_at_call 78);refine (zero_ok _ _ _ H.out).mono ?_;rintro e w1 ⟨rfl,rfl⟩)
  go_ret
  exact ⟨rfl,Below.refl _ _⟩
 ·obtain ⟨p,c,rfl,hc1,hc2,hread⟩:=Dgs.read hx.dgs
  generalize hl:digs 1000000000 a=l at *
  have hne:l≠[]:=fun e=>by rw [e] at hva;simp [val] at hva;omega
  obtain ⟨n,hn⟩:∃ n,l.length=n+1:=⟨l.length - 1,by have:=List.length_pos_iff.mpr hne;omega⟩
  have hlt:=dec_len_top hn hd htop
  have hdb:=hd.getD zo n
  have hl9:=dec_len_le 9 _ zo hdb
  rw [hva] at hlt
  rw [hlt]
  obtain ⟨b,off,rfl,hb,hcell⟩:=hread n zo
  have H:=zh hx
  have HN:=zh hn
  have HT:=zh ht
  rw [hn] at ha hc1 ⊢
  have ha0:decide (a=0)=false:=by simp;omega
  generalize hdn:l.getD n 0=dn at *
  clear hx hread hva hl ht hn hlt hdn
  generalize hL:(Lib.decDigits dn).length=L at *
  have HL:Hid ((⟨(Lib.decDigits dn).toArray⟩:ByteArray).size=L):=zh hL
  clear hL
  go_enter zq31,zq32
  go_wp2_with (first
   | ((first|go_at_call 207|go_at_call 78);refine (zero_ok _ a _ (by rw [← HN.out];exact H.out)).mono ?_;rintro e w1 ⟨rfl,rfl⟩;rw [ha0])
   | (go_at_call 175;refine (itoa_ok dn hdb _ HT.out).mono ?_;rintro e w1 ⟨rfl,hb1⟩;have hq:=HL.out))
  go_ret
  refine ⟨?_,hb1⟩
  have e:(((9*n+L:Nat)):Int)=(n:Int)*9+(L:Int):=by omega
  rw [e]
  rfl):G:=h
theorem length_ok (x:Value) (a:Nat) (w:World) (hx:Mag w x a) (ha:sz 1000000000 a≤1099511627776) (ht:Pow w) :
  Calls Tryz.prog 201 #[x] w (fun e w'=>e= .returned (.int .i64 ((Lib.decDigits a).length:Nat))∧Below w.heap.size w w'):=zs27
end Go.Proofs.frac
namespace Go.Proofs.frac
open Go Go.RowKit Go.SW Go.Num Go.Mem Go.Proofs Go.Dec
theorem infoG:(Tryz.prog.info? 65).map (fun i=>(i.zero,i.size,i.bytes))=some (some (.int .u32 0),1,4):=by kernel_rfl
theorem gather_ok (s:ByteArray) (hs:s.size≤1099511627776) (hd:DigS s.data.toList) (w:World) :
  Calls Tryz.prog 240 #[.string s] w (fun e w'=>∃ v,e= .returned v∧Below w.heap.size w w'∧Mag w' v (num s.data.toList)):=zs3
end Go.Proofs.frac
namespace Go.Proofs.frac
open Go Go.RowKit Go.SW Go.Num Go.Mem Go.Proofs
theorem _root_.Go.zs28 {G:Prop} (h:G:=by
 obtain ⟨p,c,rfl, -, -, h1⟩:=Dgs.read h.dgs
 obtain ⟨p',c',e, -, -, h2⟩:=Dgs.read k.dgs
 simp only [Value.slice.injEq] at e
 obtain ⟨rfl,hl,rfl⟩:=e
 have:digs 1000000000 m=digs 1000000000 n:=by
  refine List.ext_getElem hl fun i hi hi2=>?_
  obtain ⟨b,o,e, -, hc⟩:=h1 i hi
  obtain ⟨b',o',e', -, hc'⟩:=h2 i hi2
  rw [e] at e'
  simp only [Option.some.injEq,Addr.mk.injEq,and_true] at e'
  obtain ⟨rfl,rfl⟩:=e'
  rw [hc] at hc'
  simp only [Option.some.injEq,Value.int.injEq,true_and] at hc'
  rw [List.getD_eq_getElem?_getD,List.getD_eq_getElem?_getD,List.getElem?_eq_getElem hi,List.getElem?_eq_getElem hi2] at hc'
  simpa using Int.ofNat_inj.mp hc'
 rw [← val_digs (B:=1000000000) zo m,this,val_digs zo]):G:=h
theorem Mag.inj {w:World} {v:Value} {m n:Nat} (h:Mag w v m) (k:Mag w v n):m=n:=zs28
open Classical in
noncomputable def magOf (w:World) (v:Value):Nat:=if h:∃ n,Mag w v n then h.choose else 0
theorem magOf_eq {w:World} {v:Value} {n:Nat} (h:Mag w v n):magOf w v=n:=by
 unfold magOf
 rw [dif_pos ⟨n,h⟩]
 exact Mag.inj (Exists.choose_spec (⟨n,h⟩:∃ n,Mag w v n)) h
theorem _root_.Go.zs29 {G:Prop} (h:G:=by
 generalize hG:Nat.gcd a b=G
 have HG:=zh hG
 have HX:=zh hx
 have HY:=zh hy
 clear hx hy hG
 go_enter zq33,zq34
 go_wp2_with fail
 go_loopw [0,1] (fun vx vy wr=>∃ a b:Nat,Hid (Mag wr vx a)∧Hid (Mag wr vy b)∧Hid (Nat.gcd a b=G)∧Hid (sz 1000000000 a≤549755813888)∧Hid (sz 1000000000 b≤549755813888)∧Below w.heap.size w wr) (fun _ vy wr=>magOf wr vy)
 case atStart=>exact ⟨a,b,HX,HY,HG,zh ha,zh hb,Below.refl _ _⟩
 case round =>
  obtain ⟨a,b,HX,HY,HG,HA,HB,hbr⟩:=hrel
  obtain ⟨p,c,rfl,hc1,hc2,hread⟩:=Dgs.read HX.out.dgs
  obtain ⟨p',c',rfl,hc1',hc2',hread'⟩:=Dgs.read HY.out.dgs
  clear hread hread'
  have HLA:=zh (show ((digs 1000000000 a).length:Int)≤2→a≤18446744073709551615 from fun h=>by
   have h1:=lt_pow_sz (B:=1000000000) zo a
   have h2:(1000000000:Nat)^sz 1000000000 a≤1000000000^2:=Nat.pow_le_pow_right zo (by unfold sz;omega)
   omega)
  have HLB:=zh (show ((digs 1000000000 b).length:Int)≤2→b≤18446744073709551615 from fun h=>by
   have h1:=lt_pow_sz (B:=1000000000) zo b
   have h2:(1000000000:Nat)^sz 1000000000 b≤1000000000^2:=Nat.pow_le_pow_right zo (by unfold sz;omega)
   omega)
  rcases Nat.eq_zero_or_pos b with h0|h0
  ·subst h0
   rw [Nat.gcd_zero_right] at HG
   go_wp2_with ((first|go_at_call 207|go_at_call 78);refine (zero_ok _ 0 _ HY.out).mono ?_;rintro e w1 ⟨rfl,rfl⟩)
   go_ret
   exact ⟨_,rfl,hbr,by rw [← HG.out];exact HX.out⟩
  ·have hb0:decide (b=0)=false:=by simp;omega
   go_wp2_with ((first|go_at_call 207|go_at_call 78);refine (zero_ok _ b _ HY.out).mono ?_;rintro e w1 ⟨rfl,rfl⟩;rw [hb0])
   ·refine (small_ok _ a _ HX.out (HLA.out (by assumption))).mono ?_
    rintro e w' ⟨rfl,rfl⟩
    go_wp2_with fail
    refine (small_ok _ b _ HY.out (HLB.out (by assumption))).mono ?_
    rintro e w' ⟨rfl,rfl⟩
    have hla:=HLA.out (by assumption)
    have hlb:=HLB.out (by assumption)
    go_wp2_with fail
    go_loopw [5,6] (fun v5 v6 wi=>∃ c d:Nat,v5= .int .u64 (c:Int)∧v6= .int .u64 (d:Int)∧c≤18446744073709551615∧d≤18446744073709551615∧Hid (Nat.gcd c d=G)∧Below w.heap.size w wi) (fun _ v6 _=>(intOf v6).toNat)
    case atStart=>exact ⟨a,b,rfl,rfl,hla,hlb,HG,hbr⟩
    case round =>
     obtain ⟨c,d,rfl,rfl,hc,hd,HG2,hbi⟩:=hrel
     rcases Nat.eq_zero_or_pos d with h1|h1
     ·subst h1
      rw [Nat.gcd_zero_right] at HG2
      go_wp2_with fail
      refine (fromSmall_ok c _ hc).mono ?_
      rintro e w3 ⟨v3,rfl,hb3,hv3⟩
      have HV3:=zh hv3
      clear hv3
      go_wp2_with fail
      go_ret
      exact ⟨_,rfl,Bt hbi hb3,by rw [← HG2.out];exact HV3.out⟩
     ·have hcd:((c%d:Nat):Int)=(c:Int)%(d:Int):=Int.natCast_emod _ _
      have hlt:c%d<d:=Nat.mod_lt _ h1
      go_wp2_with fail
      go_quiet (fail)
      go_wp2_with fail
      refine ⟨⟨d,c%d,rfl,by rw [hcd],hd,by omega,zh ?_,below_drewN hbi _⟩,?_⟩
      ·rw [← HG2.out,Nat.gcd_comm d,← Nat.gcd_rec,Nat.gcd_comm]
      ·rw [← hcd]
       simp only [intOf]
       omega
   all_goals
    refine (divide_ok _ _ a b _ HX.out HY.out h0 HA.out).mono ?_
    rintro e w2 ⟨vq,vr,rfl,hb2,hq,hr⟩
    have HR:=zh hr
    clear hq hr
    go_wp2_with fail
    refine ⟨⟨b,a%b,zh (HY.out.later hb2),HR,zh ?_,HB,zh (Nat.le_trans (sz_mono zo (Nat.mod_le _ _)) HA.out),Bt hbr hb2⟩,?_⟩
    ·rw [← HG.out,Nat.gcd_comm b,← Nat.gcd_rec,Nat.gcd_comm]
    ·rw [magOf_eq HR.out,magOf_eq HY.out]
     exact Nat.mod_lt _ h0):G:=h
theorem gcd_ok (x y:Value) (a b:Nat) (w:World) (hx:Mag w x a) (hy:Mag w y b) (ha:sz 1000000000 a≤549755813888) (hb:sz 1000000000 b≤549755813888) :
  Calls Tryz.prog 153 #[x,y] w (fun e w'=>∃ v,e= .returned v∧Below w.heap.size w w'∧Mag w' v (Nat.gcd a b)):=zs29
end Go.Proofs.frac
namespace Go.Proofs.frac
open Go Go.RowKit Go.SW Go.Num Go.Mem Go.Proofs Go.Dec
theorem _root_.Go.zs30 {G:Prop} (h:G:=by
 obtain ⟨paH,lH,caH,rfl⟩:=h.slice;have H:=zh h;clear h
 cases b
 all_goals
  go_enter zq35,zq36
  go_wp2_with ((first|go_at_call 207|go_at_call 78);refine (zero_ok _ n _ magA).mono ?_;rintro e w1 ⟨rfl,rfl⟩)
  refine ret_c rfl rfl boxA zq37 rfl zk ?_
  refine ⟨_,rfl,belA,IntV.mk magA (sgd_natAbs n _).symm ?_⟩
  rw [← sgd_neg]
  rfl):G:=h
theorem signed_ok (m:Value) (n:Nat) (b:Bool) (w:World) (h:Mag w m n) :
  Calls Tryz.prog 155 #[m,.bool b] w (fun e w'=>∃ v,e= .returned v∧Below w.heap.size w w'∧IntV w' v (sgd n b)):=zs30
theorem _root_.Go.zs31 {G:Prop} (h:G:=by
 have HC:=zh (whole.cutPrefix_ok ⟨(Lib.itoa z).toArray⟩)
 have e1:(⟨(Lib.itoa z).toArray⟩:ByteArray).data.toList=Lib.itoa z:=rfl
 rw [e1,cut_itoa] at HC
 have HG:=zh (fun w=>gather_ok ⟨(Lib.decDigits z.natAbs).toArray⟩ (Nat.le_trans hz zo) (digS_dec _) w)
 have e2:(⟨(Lib.decDigits z.natAbs).toArray⟩:ByteArray).data.toList=Lib.decDigits z.natAbs:=rfl
 rw [e2,num_dec] at HG
 clear hz
 unfold itxt
 go_enter zq38,zq39
 go_wp2_with (first
  | (go_at_call 182;refine (HC.out _).mono ?_;rintro e w1 ⟨rfl,rfl⟩)
  | ((first|go_at_call 240|go_at_call 183);refine (HG.out _).mono ?_;rintro e w2 ⟨v,rfl,hb2,hv⟩;obtain ⟨paHV,lHV,caHV,rfl⟩:=hv.slice;have HV:=zh hv;clear hv;have BR:=Box.later (Box.new _ _ _) hb2;have cBR:=BR.cell;have fBR:=BR.free))
 refine ret_c rfl rfl boxA zq37 rfl zk ?_
 exact ⟨_,rfl,belA,IntV.of_neg magA⟩):G:=h
theorem number_ok (z:Int) (hz:(Lib.decDigits z.natAbs).length≤600) (w:World) :
  Calls Tryz.prog 204 #[itxt z] w (fun e w'=>∃ v,e= .returned v∧Below w.heap.size w w'∧IntV w' v z):=zs31
theorem _root_.Go.zs32 {G:Prop} (h:G:=by
 obtain ⟨paH,lH,caH,rfl,H⟩:=h;replace H:=zh H
 go_enter zq40,zq41
 go_wp2_with ((first|go_at_call 155|go_at_call 66);refine (signed_ok _ _ _ _ magA).mono ?_;rintro e w1 ⟨v,rfl,hb1,hv⟩;obtain ⟨paH1,lH1,caH1,rfl,H1⟩:=hv;replace H1:=zh H1;have BR:=Box.later (Box.at1 _ _ _ _) hb1;have cBR:=BR.cell;have fBR:=BR.free)
 refine ret_c rfl rfl boxA zq37 rfl zk ?_
 exact ⟨_,rfl,belA,(IntV.of_neg magA).cast (sgd_opp z)⟩):G:=h
theorem opposite_ok (v:Value) (z:Int) (w:World) (h:IntV w v z) :
  Calls Tryz.prog 214 #[v] w (fun e w'=>∃ v,e= .returned v∧Below w.heap.size w w'∧IntV w' v (-z)):=zs32
theorem _root_.Go.zs33 {G:Prop} (h:G:=by
 obtain ⟨paH,lH,caH,rfl,H⟩:=h;replace H:=zh H
 obtain ⟨paHU,lHU,caHU,rfl⟩:=hu.slice;have HU:=zh hu;clear hu
 have HN:=zh hn
 have HZ:=zh hz
 clear hn hz
 go_enter zq42,zq43
 go_wp2_with fail
 refine wp_region_walk [(.pure,0),(.read,1),(.pure,2),(.pure,4),(.read,5),(.ext,3),(.ext,6),(.fin,7)] zk zk zR zP ?_
 repeat (first|(refine walk_pure0 rfl rfl fun J h=>?_;go_simp;refine h _ ?_;clear h J)|(refine walk_load rfl rfl rfl rfl fun J h=>?_;go_simp;refine h _ ?_;clear h J;try go_simp))
 refine walk_ext rfl rfl (fun w1 hb1 J hJ=>?_);go_simp
 have BR:=Box.later (Box.drew (Box.at1 _ _ _ _)) hb1;have cBR:=BR.cell;have fBR:=BR.free
 refine (times_ok _ _ _ _ _ magA magA (Nat.le_trans HZ.out zo) (Nat.le_trans HN.out zo)).mono ?_
 rintro e w2 ⟨v,rfl,hb2,hv⟩
 obtain ⟨paHV,lHV,caHV,rfl⟩:=hv.slice;have HV:=zh hv;clear hv
 replace BR:=Box.later (BR) hb2;replace cBR:=BR.cell;replace fBR:=BR.free
 refine hJ _ _ hb2 ?_
 clear hJ J
 refine walk_ext rfl rfl (fun w3 hb3 J hJ=>?_);go_simp
 replace BR:=Box.later (BR) hb3;replace cBR:=BR.cell;replace fBR:=BR.free
 refine (signed_ok _ (z.natAbs*n) _ _ magA).mono ?_
 rintro e w4 ⟨v,rfl,hb4,hv⟩
 obtain ⟨paH4,lH4,caH4,rfl,H4⟩:=hv;replace H4:=zh H4
 replace BR:=Box.later (BR) hb4;replace cBR:=BR.cell;replace fBR:=BR.free
 refine hJ _ _ hb4 ?_
 clear hJ J
 refine walk_fin [_] rfl (fun w5 hb5=>?_)
 replace BR:=Box.later (BR) hb5;replace cBR:=BR.cell;replace fBR:=BR.free
 go_wp2_with fail
 refine ret_c rfl rfl boxA zq37 rfl zk ?_
 exact ⟨_,rfl,belA,(IntV.of_neg magA).cast (sgd_mul z n)⟩):G:=h
theorem scaled_ok (v u:Value) (z:Int) (n:Nat) (w:World) (h:IntV w v z) (hu:Mag w u n) (hz:sz 1000000000 z.natAbs≤549755813888) (hn:sz 1000000000 n≤549755813888) :
  Calls Tryz.prog 212 #[v,u] w (fun e w'=>∃ v,e= .returned v∧Below w.heap.size w w'∧IntV w' v (z*n)):=zs33
theorem _root_.Go.zs34 {G:Prop} (h:G:=by
 have H:=zh h
 have H2:=zh h2
 have KZ:=zh kz
 have KY:=zh ky
 have HE:=zh (sgd_add hz hy)
 clear h h2 kz ky hz hy
 cases b
 all_goals
  go_enter zq44,zq45
  go_wp2_with fail
  refine wp_region_walk [(.pure,0),(.read,1),(.pure,2),(.read,3),(.pure,5),(.read,6),(.ext,4),(.ext,7),(.fin,8)] zk zk zR zP ?_
  repeat (first|(refine walk_pure0 rfl rfl fun J h=>?_;go_simp;refine h _ ?_;clear h J)|(refine walk_load rfl rfl rfl rfl fun J h=>?_;go_simp;refine h _ ?_;clear h J;try go_simp))
  refine walk_ext rfl rfl (fun w1 hb1 J hJ=>?_);go_simp
  have BR:=Box.later (Box.drew (Box.at2 _ _ _ _ _)) hb1;have cBR:=BR.cell;have fBR:=BR.free
  refine (plus_ok _ _ z.natAbs y.natAbs _ magA magA (Nat.le_trans KZ.out zo) (Nat.le_trans KY.out zo)).mono ?_
  rintro e v1 ⟨v,rfl,hc1,hv⟩
  obtain ⟨paHS,lHS,caHS,rfl⟩:=hv.slice;have HS:=zh hv;clear hv
  replace BR:=Box.later (BR) hc1;replace cBR:=BR.cell;replace fBR:=BR.free
  refine hJ _ _ hc1 ?_
  clear hJ J
  refine walk_ext rfl rfl (fun w2 hb2 J hJ=>?_);go_simp
  replace BR:=Box.later (BR) hb2;replace cBR:=BR.cell;replace fBR:=BR.free
  refine (signed_ok _ (z.natAbs+y.natAbs) _ _ magA).mono ?_
  rintro e v2 ⟨v,rfl,hc2,hv⟩
  obtain ⟨paHT,lHT,caHT,rfl,HT⟩:=hv;replace HT:=zh HT
  replace BR:=Box.later (BR) hc2;replace cBR:=BR.cell;replace fBR:=BR.free
  refine hJ _ _ hc2 ?_
  clear hJ J
  refine walk_fin [_] rfl (fun w5 hb5=>?_)
  replace BR:=Box.later (BR) hb5;replace cBR:=BR.cell;replace fBR:=BR.free
  go_wp2_with fail
  refine ret_c rfl rfl boxA zq37 rfl zk ?_
  exact ⟨_,rfl,belA,(IntV.of_neg magA).cast HE.out⟩):G:=h
theorem sum_same (pa pb:Option Addr) (l m ca cb:Nat) (z y:Int) (b:Bool) (w:World) (h:Mag w (.slice pa l ca) z.natAbs) (h2:Mag w (.slice pb m cb) y.natAbs) (hz:decide (z<0)=b) (hy:decide (y<0)=b) (kz:sz 1000000000 z.natAbs≤549755813888) (ky:sz 1000000000 y.natAbs≤549755813888) :
  Calls Tryz.prog 213 #[.agg #[.slice pa l ca,.bool b],.agg #[.slice pb m cb,.bool b]] w (fun e w'=>∃ v,e= .returned v∧Below w.heap.size w w'∧IntV w' v (z+y)):=zs34
theorem _root_.Go.zs35 {G:Prop} (h:G:=by
 have H:=zh h
 have H2:=zh h2
 have KZ:=zh kz
 have KY:=zh ky
 rcases Nat.lt_or_ge z.natAbs y.natAbs with hlt|hge
 ·have HE:Hid (sgd (y.natAbs - z.natAbs) (!b)=z+y):=by
   have:=sgd_sub (z:=y) (y:=z) (b:= !b) hy (by rw [hz,Bool.not_not])
   rw [if_pos zo] at this
   exact this.trans (Int.add_comm _ _)
  have HC:=zh (sgn_lt hlt)
  have HL:=zh hlt
  clear h h2 kz ky hz hy hlt
  cases b
  all_goals
   go_enter zq44,zq45
   go_wp2_with fail
   refine ((compare_ok _ _ z.natAbs y.natAbs _ magA magA).mono (by rw [HC.out];exact fun _ _ h=>h)).mono ?_
   rintro e v1 ⟨rfl,hc1⟩
   have BR:=Box.later (Box.at2 _ _ _ _ _) hc1;have cBR:=BR.cell;have fBR:=BR.free
   have B1:=Box.later (Box.alloc (Box.at1 _ _ _ _) _) hc1;have cB1:=B1.cell;have fB1:=B1.free
   have B0:=Box.later (Box.alloc (Box.alloc (Box.new _ _ _) _) _) hc1;have cB0:=B0.cell;have fB0:=B0.free
   go_wp2_with fail
   refine wp_region_walk [(.pure,0),(.read,1),(.pure,2),(.read,3),(.pure,5),(.read,6),(.ext,4),(.ext,7),(.fin,8)] zk zk zR zP ?_
   repeat (first|(refine walk_pure0 rfl rfl fun J h=>?_;go_simp;refine h _ ?_;clear h J)|(refine walk_load rfl rfl rfl rfl fun J h=>?_;go_simp;refine h _ ?_;clear h J;try go_simp))
   refine walk_ext rfl rfl (fun w2 hb2 J hJ=>?_);go_simp
   replace BR:=Box.later (Box.drew BR) hb2;replace cBR:=BR.cell;replace fBR:=BR.free
   refine (minus_ok _ _ y.natAbs z.natAbs _ magA magA (Nat.le_trans KY.out zo) (Nat.le_of_lt HL.out)).mono ?_
   rintro e v2 ⟨v,rfl,hc2,hv⟩
   obtain ⟨paHD,lHD,caHD,rfl⟩:=hv.slice;have HD:=zh hv;clear hv
   replace BR:=Box.later (BR) hc2;replace cBR:=BR.cell;replace fBR:=BR.free
   refine hJ _ _ hc2 ?_
   clear hJ J
   refine walk_ext rfl rfl (fun w3 hb3 J hJ=>?_);go_simp
   replace BR:=Box.later (BR) hb3;replace cBR:=BR.cell;replace fBR:=BR.free
   refine (signed_ok _ (y.natAbs - z.natAbs) _ _ magA).mono ?_
   rintro e v3 ⟨v,rfl,hc3,hv⟩
   obtain ⟨paHT,lHT,caHT,rfl,HT⟩:=hv;replace HT:=zh HT
   replace BR:=Box.later (BR) hc3;replace cBR:=BR.cell;replace fBR:=BR.free
   refine hJ _ _ hc3 ?_
   clear hJ J
   refine walk_fin [_] rfl (fun w5 hb5=>?_)
   replace BR:=Box.later (BR) hb5;replace cBR:=BR.cell;replace fBR:=BR.free
   go_wp2_with fail
   refine ret_c rfl rfl boxA zq37 rfl zk ?_
   exact ⟨_,rfl,belA,(IntV.of_neg magA).cast HE.out⟩
 ·have HE:Hid (sgd (z.natAbs - y.natAbs) b=z+y):=by
   have:=sgd_sub (z:=z) (y:=y) (b:=b) hz hy
   rw [if_pos zo] at this
   exact this
  have hs:sgn z.natAbs y.natAbs=0∨sgn z.natAbs y.natAbs=1:=by
   rcases Nat.lt_or_ge y.natAbs z.natAbs with h2|h2
   ·exact .inr (sgn_gt h2)
   ·have:z.natAbs=y.natAbs:=by omega
    rw [this];exact .inl (sgn_eq _)
  have HL:=zh hge
  clear h h2 kz ky hz hy hge
  rcases hs with hs|hs<;>cases b
  all_goals
   have HC:=zh hs
   clear hs
   go_enter zq44,zq45
   go_wp2_with fail
   refine ((compare_ok _ _ z.natAbs y.natAbs _ magA magA).mono (by rw [HC.out];exact fun _ _ h=>h)).mono ?_
   rintro e v1 ⟨rfl,hc1⟩
   have BR:=Box.later (Box.at2 _ _ _ _ _) hc1;have cBR:=BR.cell;have fBR:=BR.free
   have B1:=Box.later (Box.alloc (Box.at1 _ _ _ _) _) hc1;have cB1:=B1.cell;have fB1:=B1.free
   have B0:=Box.later (Box.alloc (Box.alloc (Box.new _ _ _) _) _) hc1;have cB0:=B0.cell;have fB0:=B0.free
   go_wp2_with fail
   refine wp_region_walk [(.pure,0),(.read,1),(.pure,2),(.read,3),(.pure,5),(.read,6),(.ext,4),(.ext,7),(.fin,8)] zk zk zR zP ?_
   repeat (first|(refine walk_pure0 rfl rfl fun J h=>?_;go_simp;refine h _ ?_;clear h J)|(refine walk_load rfl rfl rfl rfl fun J h=>?_;go_simp;refine h _ ?_;clear h J;try go_simp))
   refine walk_ext rfl rfl (fun w2 hb2 J hJ=>?_);go_simp
   replace BR:=Box.later (Box.drew BR) hb2;replace cBR:=BR.cell;replace fBR:=BR.free
   refine (minus_ok _ _ z.natAbs y.natAbs _ magA magA (Nat.le_trans KZ.out zo) HL.out).mono ?_
   rintro e v2 ⟨v,rfl,hc2,hv⟩
   obtain ⟨paHD,lHD,caHD,rfl⟩:=hv.slice;have HD:=zh hv;clear hv
   replace BR:=Box.later (BR) hc2;replace cBR:=BR.cell;replace fBR:=BR.free
   refine hJ _ _ hc2 ?_
   clear hJ J
   refine walk_ext rfl rfl (fun w3 hb3 J hJ=>?_);go_simp
   replace BR:=Box.later (BR) hb3;replace cBR:=BR.cell;replace fBR:=BR.free
   refine (signed_ok _ (z.natAbs - y.natAbs) _ _ magA).mono ?_
   rintro e v3 ⟨v,rfl,hc3,hv⟩
   obtain ⟨paHT,lHT,caHT,rfl,HT⟩:=hv;replace HT:=zh HT
   replace BR:=Box.later (BR) hc3;replace cBR:=BR.cell;replace fBR:=BR.free
   refine hJ _ _ hc3 ?_
   clear hJ J
   refine walk_fin [_] rfl (fun w5 hb5=>?_)
   replace BR:=Box.later (BR) hb5;replace cBR:=BR.cell;replace fBR:=BR.free
   go_wp2_with fail
   refine ret_c rfl rfl boxA zq37 rfl zk ?_
   exact ⟨_,rfl,belA,(IntV.of_neg magA).cast HE.out⟩):G:=h
theorem sum_diff (pa pb:Option Addr) (l m ca cb:Nat) (z y:Int) (b:Bool) (w:World) (h:Mag w (.slice pa l ca) z.natAbs) (h2:Mag w (.slice pb m cb) y.natAbs) (hz:decide (z<0)=b) (hy:decide (y<0)= !b) (kz:sz 1000000000 z.natAbs≤549755813888) (ky:sz 1000000000 y.natAbs≤549755813888) :
  Calls Tryz.prog 213 #[.agg #[.slice pa l ca,.bool b],.agg #[.slice pb m cb,.bool !b]] w (fun e w'=>∃ v,e= .returned v∧Below w.heap.size w w'∧IntV w' v (z+y)):=zs35
theorem _root_.Go.zs36 {G:Prop} (h:G:=by
 obtain ⟨pa,l,ca,rfl,hm⟩:=h
 obtain ⟨pb,m,cb,rfl,hm2⟩:=h2
 by_cases hb:decide (z<0)=decide (y<0)
 ·rw [hb]
  exact sum_same pa pb l m ca cb z y (decide (y<0)) w hm hm2 hb rfl kz ky
 ·have hb2:decide (y<0)= !decide (z<0):=by
   cases h1:decide (z<0)<;>cases h2:decide (y<0)<;>simp_all
  rw [hb2]
  exact sum_diff pa pb l m ca cb z y (decide (z<0)) w hm hm2 rfl hb2 kz ky):G:=h
theorem sum_ok (v u:Value) (z y:Int) (w:World) (h:IntV w v z) (h2:IntV w u y) (kz:sz 1000000000 z.natAbs≤549755813888) (ky:sz 1000000000 y.natAbs≤549755813888) :
  Calls Tryz.prog 213 #[v,u] w (fun e w'=>∃ v,e= .returned v∧Below w.heap.size w w'∧IntV w' v (z+y)):=zs36
theorem _root_.Go.zs37 {G:Prop} (h:G:=by
 obtain ⟨pa,l,ca,rfl,hm⟩:=h
 have hlen:((1+(Lib.decDigits z.natAbs).length:Nat):Int)≤9223372036854775807:=by
  have h1:=dec_len_val (dig_digs (B:=1000000000) zo z.natAbs)
  rw [val_digs zo] at h1
  unfold sz at kz
  omega
 have hlen2:¬ 9223372036854775807<1+(Lib.decDigits z.natAbs).length:=by omega
 have H:=zh hm
 have KZ:=zh kz
 have HT:=zh ht
 clear hm kz ht hlen
 by_cases hz:z<0
 ·have e:itxt z= .string ⟨(45::Lib.decDigits z.natAbs).toArray⟩:=by unfold itxt Lib.itoa;rw [if_pos hz]
  rw [e,decide_eq_true hz]
  clear e hz
  go_enter zq46,zq47
  go_wp2_with fail
  refine (digits_ok _ z.natAbs _ magA KZ.out (HT.out.later belA)).mono ?_
  rintro e v1 ⟨rfl,hc1⟩
  go_wp2_with fail
  go_ret
  exact ⟨rfl,belA⟩
 ·have e:itxt z= .string ⟨(Lib.decDigits z.natAbs).toArray⟩:=by unfold itxt Lib.itoa;rw [if_neg hz,show z.toNat=z.natAbs by omega]
  rw [e,decide_eq_false hz]
  clear e hz
  go_enter zq46,zq47
  go_wp2_with fail
  refine (digits_ok _ z.natAbs _ magA KZ.out (HT.out.later belA)).mono ?_
  rintro e v1 ⟨rfl,hc1⟩
  go_wp2_with fail
  go_ret
  exact ⟨rfl,belA⟩):G:=h
theorem text_ok (v:Value) (z:Int) (w:World) (h:IntV w v z) (kz:sz 1000000000 z.natAbs≤1099511627776) (ht:Bld.Pow w) :
  Calls Tryz.prog 191 #[v] w (fun e w'=>e= .returned (itxt z)∧Below w.heap.size w w'):=zs37
end Go.Proofs.frac
namespace Go.Proofs.frac
open Go Go.RowKit Go.SW Go.Num Go.Mem Go.Proofs Go.Dec Go.Fra
theorem sign_ok (v:Value) (z:Int) (w:World) (h:IntV w v z) :
  Calls Tryz.prog 205 #[v] w (fun e w'=>e= .returned (.int .i64 (sgnz z))∧Below w.heap.size w w'):=by
 obtain ⟨paH,lH,caH,rfl,H⟩:=h;replace H:=zh H
 rcases Int.lt_trichotomy z 0 with hz|hz|hz
 ·have e:sgnz z= -1:=by unfold sgnz;rw [if_neg zo,if_pos hz]
  rw [e,decide_eq_true hz]
  have h0:decide (z.natAbs=0)=false:=by simp;omega
  go_enter Tryz.func205,Tryz.ntmps205
  go_wp2_with (go_at_call 207;refine (zero_ok _ z.natAbs _ magA).mono ?_;rintro e w1 ⟨rfl,rfl⟩;rw [h0])
  go_ret
  exact ⟨rfl,belA⟩
 ·subst hz
  go_enter Tryz.func205,Tryz.ntmps205
  go_wp2_with (go_at_call 207;refine (zero_ok _ (Int.natAbs 0) _ magA).mono ?_;rintro e w1 ⟨rfl,rfl⟩)
  go_ret
  exact ⟨rfl,belA⟩
 ·have e:sgnz z=1:=by unfold sgnz;rw [if_neg zo,if_neg zo]
  rw [e,decide_eq_false (show ¬ z<0 by omega)]
  have h0:decide (z.natAbs=0)=false:=by simp;omega
  go_enter Tryz.func205,Tryz.ntmps205
  go_wp2_with (go_at_call 207;refine (zero_ok _ z.natAbs _ magA).mono ?_;rintro e w1 ⟨rfl,rfl⟩;rw [h0])
  go_ret
  exact ⟨rfl,belA⟩
theorem order_ok (x y:Value) (p q:Rat) (w:World) (hx:RatV w x p) (hy:RatV w y q) (kp:szq 1000000 p) (kq:szq 1000000 q) :
  Calls Tryz.prog 158 #[x,y] w (fun e w'=>e= .returned (.int .i64 (cmpq p q))∧Below w.heap.size w w'):=by
 obtain ⟨paH,lH,caH,pbH,mH,cbH,rfl,H,Hd⟩:=hx;replace H:=zh H;replace Hd:=zh Hd
 obtain ⟨paG,lG,caG,pbG,mG,cbG,rfl,G,Gd⟩:=hy;replace G:=zh G;replace Gd:=zh Gd
 rw [← sgnz_cmp]
 have k1:=sz_absmul p.num q.den
 have k2:=sz_absmul q.num p.den
 obtain ⟨kp1,kp2⟩:=kp
 obtain ⟨kq1,kq2⟩:=kq
 obtain ⟨y1,Ey1⟩:∃ y:Int,Hid (p.num*(q.den:Int)=y):=⟨_,zh rfl⟩
 obtain ⟨y2,Ey2⟩:∃ y:Int,Hid (q.num*(p.den:Int)=y):=⟨_,zh rfl⟩
 obtain ⟨y3,Ey3⟩:∃ y:Int,Hid (-y2=y):=⟨_,zh rfl⟩
 obtain ⟨y4,Ey4⟩:∃ y:Int,Hid (y1+y3=y):=⟨_,zh rfl⟩
 rw [Ey1.out,Ey2.out,Ey3.out,Ey4.out]
 rw [Ey1.out] at k1
 rw [Ey2.out] at k2
 have k3:sz 1000000000 y3.natAbs=sz 1000000000 y2.natAbs:=by rw [← Ey3.out,Int.natAbs_neg]
 have K1:Hid (sz 1000000000 y1.natAbs≤549755813888):=by unfold Hid;omega
 have K3:Hid (sz 1000000000 y3.natAbs≤549755813888):=by unfold Hid;omega
 have KP1:=zh kp1
 have KP2:=zh kp2
 have KQ1:=zh kq1
 have KQ2:=zh kq2
 clear kp1 kp2 kq1 kq2 k1 k2 k3
 go_enter Tryz.func158,Tryz.ntmps158
 go_wp2_with fail
 refine wp_region_walk [(.pure,0),(.read,1),(.pure,2),(.read,3),(.pure,5),(.read,6),(.pure,7),(.read,8),(.ext,4),(.ext,9),(.ext,10),(.ext,11),(.ext,12),(.fin,13)] zk zk zR zP ?_
 repeat (first|(refine walk_pure0 rfl rfl fun J h=>?_;go_simp;refine h _ ?_;clear h J)|(refine walk_load rfl rfl rfl rfl fun J h=>?_;go_simp;refine h _ ?_;clear h J;try go_simp))
 refine walk_ext rfl rfl (fun w1 hb1 J hJ=>?_);go_simp
 refine ((scaled_ok _ _ p.num q.den _ (IntV.of_neg magA) magA (Nat.le_trans KP1.out zo) (Nat.le_trans KQ2.out zo)).mono (by rw [Ey1.out];exact fun _ _ h=>h)).mono ?_
 rintro e v1 ⟨v,rfl,hc1,hv⟩
 obtain ⟨paHA,lHA,caHA,rfl,HA⟩:=hv;replace HA:=zh HA
 refine hJ _ _ hc1 ?_
 clear hJ J
 refine walk_ext rfl rfl (fun w2 hb2 J hJ=>?_);go_simp
 refine ((scaled_ok _ _ q.num p.den _ (IntV.of_neg magA) magA (Nat.le_trans KQ1.out zo) (Nat.le_trans KP2.out zo)).mono (by rw [Ey2.out];exact fun _ _ h=>h)).mono ?_
 rintro e v2 ⟨v,rfl,hc2,hv⟩
 obtain ⟨paHB,lHB,caHB,rfl,HB⟩:=hv;replace HB:=zh HB
 refine hJ _ _ hc2 ?_
 clear hJ J
 refine walk_ext rfl rfl (fun w3 hb3 J hJ=>?_);go_simp
 refine ((opposite_ok _ y2 _ (IntV.of_neg magA)).mono (by rw [Ey3.out];exact fun _ _ h=>h)).mono ?_
 rintro e v3 ⟨v,rfl,hc3,hv⟩
 obtain ⟨paHC,lHC,caHC,rfl,HC⟩:=hv;replace HC:=zh HC
 refine hJ _ _ hc3 ?_
 clear hJ J
 refine walk_ext rfl rfl (fun w4 hb4 J hJ=>?_);go_simp
 refine ((sum_ok _ _ y1 y3 _ (IntV.of_neg magA) (IntV.of_neg magA) K1.out K3.out).mono (by rw [Ey4.out];exact fun _ _ h=>h)).mono ?_
 rintro e v4 ⟨v,rfl,hc4,hv⟩
 obtain ⟨paHD,lHD,caHD,rfl,HD⟩:=hv;replace HD:=zh HD
 refine hJ _ _ hc4 ?_
 clear hJ J
 refine walk_ext rfl rfl (fun w5 hb5 J hJ=>?_);go_simp
 refine (sign_ok _ y4 _ (IntV.of_neg magA)).mono ?_
 rintro e v5 ⟨rfl,hc5⟩
 refine hJ _ _ hc5 ?_
 clear hJ J
 refine walk_fin [_] rfl (fun w5 hb5=>?_)
 go_wp2_with fail
 go_ret
 exact ⟨rfl,belA⟩
theorem reduced_ok (x y:Value) (n:Int) (d:Nat) (w:World) (hx:IntV w x n) (hy:Mag w y d) (hd:0<d) (kn:sz 1000000000 n.natAbs≤549755813888) (kd:sz 1000000000 d≤549755813888) :
  Calls Tryz.prog 231 #[x,y] w (fun e w'=>∃ v,e= .returned v∧Below w.heap.size w w'∧RatV w' v (mkRat n d)):=by
 obtain ⟨paH,lH,caH,rfl,H⟩:=hx;replace H:=zh H
 obtain ⟨paG,lG,caG,rfl⟩:=hy.slice;have G:=zh hy;clear hy
 have HP:=zh (mk_parts n hd)
 have hg:0<n.natAbs.gcd d:=Nat.gcd_pos_of_pos_right _ hd
 obtain ⟨g,Eg⟩:∃ y:Nat,Hid (n.natAbs.gcd d=y):=⟨_,zh rfl⟩
 obtain ⟨a,Ea⟩:∃ y:Nat,Hid (n.natAbs / g=y):=⟨_,zh rfl⟩
 obtain ⟨b,Eb⟩:∃ y:Nat,Hid (d / g=y):=⟨_,zh rfl⟩
 rw [Eg.out] at HP hg
 rw [Ea.out,Eb.out] at HP
 have KN:=zh kn
 have KD:=zh kd
 have HG:=zh hg
 clear kn kd hg hd
 go_enter Tryz.func231,Tryz.ntmps231
 go_wp2_with fail
 refine ((gcd_ok _ _ n.natAbs d _ magA magA KN.out KD.out).mono (by rw [Eg.out];exact fun _ _ h=>h)).mono ?_
 rintro e v1 ⟨v,rfl,hc1,hv⟩
 obtain ⟨paHg,lHg,caHg,rfl⟩:=hv.slice;have Hg:=zh hv;clear hv
 have BR:=Box.later (Box.at1 _ _ _ _) hc1;have cBR:=BR.cell;have fBR:=BR.free
 have B0:=Box.later (Box.alloc (Box.new _ _ _) _) hc1;have cB0:=B0.cell;have fB0:=B0.free
 go_wp2_with fail
 refine ((divide_ok _ _ n.natAbs g _ magA magA HG.out KN.out).mono (by rw [Ea.out];exact fun _ _ h=>h)).mono ?_
 rintro e v2 ⟨v,vr,rfl,hc2,hv,hvr⟩
 obtain ⟨paHa,lHa,caHa,rfl⟩:=hv.slice;have Ha:=zh hv;clear hv;obtain ⟨paHar,lHar,caHar,rfl⟩:=hvr.slice;have Har:=zh hvr;clear hvr
 replace BR:=Box.later (BR) hc2;replace cBR:=BR.cell;replace fBR:=BR.free
 replace B0:=Box.later (B0) hc2;replace cB0:=B0.cell;replace fB0:=B0.free
 go_wp2_with fail
 refine ((divide_ok _ _ d g _ magA magA HG.out KD.out).mono (by rw [Eb.out];exact fun _ _ h=>h)).mono ?_
 rintro e v3 ⟨v,vr,rfl,hc3,hv,hvr⟩
 obtain ⟨paHb,lHb,caHb,rfl⟩:=hv.slice;have Hb:=zh hv;clear hv;obtain ⟨paHbr,lHbr,caHbr,rfl⟩:=hvr.slice;have Hbr:=zh hvr;clear hvr
 replace BR:=Box.later (BR) hc3;replace cBR:=BR.cell;replace fBR:=BR.free
 replace B0:=Box.later (B0) hc3;replace cB0:=B0.cell;replace fB0:=B0.free
 go_wp2_with fail
 refine (signed_ok _ a _ _ magA).mono ?_
 rintro e v4 ⟨v,rfl,hc4,hv⟩
 obtain ⟨paHs,lHs,caHs,rfl,Hs⟩:=hv;replace Hs:=zh Hs
 replace BR:=Box.later (BR) hc4;replace cBR:=BR.cell;replace fBR:=BR.free
 replace B0:=Box.later (B0) hc4;replace cB0:=B0.cell;replace fB0:=B0.free
 go_wp2_with fail
 refine ret_c rfl rfl boxA Tryz.underlying153 rfl zk ?_
 exact ⟨_,rfl,belA,RatV.mk (sgd a (decide (n<0))).natAbs b magA magA (by rw [HP.out.1]) HP.out.2.symm (by rw [HP.out.1])⟩
theorem write_ok (v:Value) (q:Rat) (w:World) (h:RatV w v q) (k:szq 1000000 q) (ht:Bld.Pow w) :
  Calls Tryz.prog 151 #[v] w (fun e w'=>e= .returned (Fr.res (wr q))∧Below w.heap.size w w'):=by
 obtain ⟨paH,lH,caH,pbH,mH,cbH,rfl,H,Hd⟩:=h;replace H:=zh H;replace Hd:=zh Hd
 have HT:=zh ht
 have K1:=zh k.1
 have K2:=zh k.2
 clear ht k
 rcases Nat.lt_or_ge 600 (Lib.decDigits q.num.natAbs).length with h1|h1
 ·rw [wr_big (by unfold okq;rw [okn_no h1];rfl)]
  go_enter Tryz.func151,Tryz.ntmps151
  go_wp2_with fail
  refine (length_ok _ q.num.natAbs _ magA (Nat.le_trans K1.out zo) (HT.out.later belA)).mono ?_
  rintro e v1 ⟨rfl,hc1⟩
  have BR:=Box.later (Box.at1 _ _ _ _) hc1;have cBR:=BR.cell;have fBR:=BR.free
  have B0:=Box.later (Box.alloc (Box.new _ _ _) _) hc1;have cB0:=B0.cell;have fB0:=B0.free
  go_wp2_with fail
  refine ret_ct rfl rfl boxA Tryz.underlying59 rfl zk ?_
  exact ⟨rfl,belA⟩
 ·rcases Nat.lt_or_ge 600 (Lib.decDigits q.den).length with h2|h2
  ·rw [wr_big (by unfold okq;rw [okn_no h2,Bool.and_false])]
   go_enter Tryz.func151,Tryz.ntmps151
   go_wp2_with fail
   refine (length_ok _ q.num.natAbs _ magA (Nat.le_trans K1.out zo) (HT.out.later belA)).mono ?_
   rintro e v1 ⟨rfl,hc1⟩
   have BR:=Box.later (Box.at1 _ _ _ _) hc1;have cBR:=BR.cell;have fBR:=BR.free
   have B0:=Box.later (Box.alloc (Box.new _ _ _) _) hc1;have cB0:=B0.cell;have fB0:=B0.free
   go_wp2_with fail
   refine (length_ok _ q.den _ magA (Nat.le_trans K2.out zo) (HT.out.later belA)).mono ?_
   rintro e v2 ⟨rfl,hc2⟩
   replace BR:=Box.later (BR) hc2;replace cBR:=BR.cell;replace fBR:=BR.free
   replace B0:=Box.later (B0) hc2;replace cB0:=B0.cell;replace fB0:=B0.free
   go_wp2_with fail
   refine ret_ct rfl rfl boxA Tryz.underlying59 rfl zk ?_
   exact ⟨rfl,belA⟩
  ·rw [wr_ok (by unfold okq;rw [okn_len.2 h1,okn_len.2 h2];rfl)]
   go_enter Tryz.func151,Tryz.ntmps151
   go_wp2_with fail
   refine (length_ok _ q.num.natAbs _ magA (Nat.le_trans K1.out zo) (HT.out.later belA)).mono ?_
   rintro e v1 ⟨rfl,hc1⟩
   have BR:=Box.later (Box.at1 _ _ _ _) hc1;have cBR:=BR.cell;have fBR:=BR.free
   have B0:=Box.later (Box.alloc (Box.new _ _ _) _) hc1;have cB0:=B0.cell;have fB0:=B0.free
   go_wp2_with fail
   refine (length_ok _ q.den _ magA (Nat.le_trans K2.out zo) (HT.out.later belA)).mono ?_
   rintro e v2 ⟨rfl,hc2⟩
   replace BR:=Box.later (BR) hc2;replace cBR:=BR.cell;replace fBR:=BR.free
   replace B0:=Box.later (B0) hc2;replace cB0:=B0.cell;replace fB0:=B0.free
   go_wp2_with fail
   refine wp_region_walk [(.pure,0),(.read,1),(.pure,3),(.read,4),(.ext,2),(.ext,5),(.pure,6),(.fin,7),(.fin,8)] zk zk zR zP ?_
   repeat (first|(refine walk_pure0 rfl rfl fun J h=>?_;go_simp;refine h _ ?_;clear h J)|(refine walk_load rfl rfl rfl rfl fun J h=>?_;go_simp;refine h _ ?_;clear h J;try go_simp))
   refine walk_ext rfl rfl (fun w3 hb3 J hJ=>?_);go_simp
   replace BR:=Box.later (Box.drew BR) hb3;replace cBR:=BR.cell;replace fBR:=BR.free
   refine ((text_ok _ q.num _ (IntV.of_neg magA) (Nat.le_trans K1.out zo) (HT.out.later belA)).mono (fun _ _ h=>by unfold itxt at h;exact h)).mono ?_
   rintro e v3 ⟨rfl,hc3⟩
   replace BR:=Box.later (BR) hc3;replace cBR:=BR.cell;replace fBR:=BR.free
   refine hJ _ _ hc3 ?_
   clear hJ J
   refine walk_ext rfl rfl (fun w4 hb4 J hJ=>?_);go_simp
   replace BR:=Box.later (BR) hb4;replace cBR:=BR.cell;replace fBR:=BR.free
   refine (digits_ok _ q.den _ magA (Nat.le_trans K2.out zo) (HT.out.later belA)).mono ?_
   rintro e v4 ⟨rfl,hc4⟩
   replace BR:=Box.later (BR) hc4;replace cBR:=BR.cell;replace fBR:=BR.free
   refine hJ _ _ hc4 ?_
   clear hJ J
   repeat (first|(refine walk_pure0 rfl rfl fun J h=>?_;go_simp;refine h _ ?_;clear h J)|(refine walk_load rfl rfl rfl rfl fun J h=>?_;go_simp;refine h _ ?_;clear h J;try go_simp))
   refine walk_fin [_,_] rfl (fun w5 hb5=>?_)
   replace BR:=Box.later (BR) hb5;replace cBR:=BR.cell;replace fBR:=BR.free
   go_wp2_with fail
   refine ret_ct rfl rfl boxA Tryz.underlying59 rfl zk ?_
   exact ⟨rfl,belA⟩
def ReadSome (w:World) (q:Rat) (e:Ending) (w':World):Prop:=∃ v,e= .returned (.tuple #[v,.bool true])∧Below w.heap.size w w'∧RatV w' v q
def ReadNone (w:World) (e:Ending) (w':World):Prop:=e= .returned (.tuple #[.agg #[.slice none 0 0,.bool false,.slice none 0 0],.bool false])∧Below w.heap.size w w'
theorem check_yes {s:ByteArray} {z:Int} (h:Dec.whole s.data.toList=some z) (w:World):Calls Tryz.prog 203 #[.string s] w (fun e w'=>e= .returned (.int .i64 0)∧Below w.heap.size w w'):=by
 have:=whole.check_ok s w
 rw [h] at this
 exact this
theorem check_no {s:ByteArray} (h:Dec.whole s.data.toList=none) (w:World):Calls Tryz.prog 203 #[.string s] w (fun e w'=>e= .returned (.int .i64 10)∧Below w.heap.size w w'):=by
 have:=whole.check_ok s w
 rw [h] at this
 exact this
theorem read_bad_n (s t:ByteArray) (h:Dec.whole s.data.toList=none) (w:World) :
  Calls Tryz.prog 152 #[.agg #[.string s,.string t]] w (ReadNone w):=by
 have HC:=zh (check_no h)
 clear h
 go_enter Tryz.func152,Tryz.ntmps152
 go_wp2_with fail
 refine (HC.out _).mono ?_
 rintro e v1 ⟨rfl,hc1⟩
 have BR:=Box.later (Box.at1 _ _ _ _) hc1;have cBR:=BR.cell;have fBR:=BR.free
 have B0:=Box.later (Box.alloc (Box.new _ _ _) _) hc1;have cB0:=B0.cell;have fB0:=B0.free
 go_wp2_with fail
 refine ret_ct rfl rfl boxA Tryz.underlying153 rfl zk ?_
 exact ⟨rfl,belA⟩
theorem read_bad_d (s t:ByteArray) (n:Int) (hn:Dec.whole s.data.toList=some n) (h:Dec.whole t.data.toList=none) (w:World) :
  Calls Tryz.prog 152 #[.agg #[.string s,.string t]] w (ReadNone w):=by
 have HC:=zh (check_yes hn)
 have HD:=zh (check_no h)
 clear h hn
 go_enter Tryz.func152,Tryz.ntmps152
 go_wp2_with fail
 refine (HC.out _).mono ?_
 rintro e v1 ⟨rfl,hc1⟩
 have BR:=Box.later (Box.at1 _ _ _ _) hc1;have cBR:=BR.cell;have fBR:=BR.free
 have B0:=Box.later (Box.alloc (Box.new _ _ _) _) hc1;have cB0:=B0.cell;have fB0:=B0.free
 go_wp2_with fail
 refine (HD.out _).mono ?_
 rintro e v2 ⟨rfl,hc2⟩
 replace BR:=Box.later (BR) hc2;replace cBR:=BR.cell;replace fBR:=BR.free
 replace B0:=Box.later (B0) hc2;replace cB0:=B0.cell;replace fB0:=B0.free
 go_wp2_with fail
 refine ret_ct rfl rfl boxA Tryz.underlying153 rfl zk ?_
 exact ⟨rfl,belA⟩
theorem read_some (q:Rat) (hq:okq q=true) (w:World) :
  Calls Tryz.prog 152 #[(Fr.of q).v] w (ReadSome w q):=by
 show Calls _ _ #[.agg #[.string ⟨(Lib.itoa q.num).toArray⟩,.string ⟨(Lib.itoa (q.den:Int)).toArray⟩]] _ _
 have hs:=okq_sz hq
 have hl:(Lib.decDigits q.num.natAbs).length≤600∧(Lib.decDigits ((q.den:Nat):Int).natAbs).length≤600:=by
  unfold okq at hq
  rw [Bool.and_eq_true,okn_len,okn_len] at hq
  exact ⟨hq.1,(Int.natAbs_natCast q.den).symm ▸ hq.2⟩
 obtain ⟨hl1,hl2⟩:=hl
 have hd:=q.den_pos
 have hr:=q.reduced
 have HC:=zh (check_yes (s:=⟨(Lib.itoa q.num).toArray⟩) (whole_of_itoa hl1))
 have HD:=zh (check_yes (s:=⟨(Lib.itoa (q.den:Int)).toArray⟩) (whole_of_itoa hl2))
 have HL1:=zh hl1
 have HL2:=zh hl2
 have HR:=zh hr
 have S1:=zh hs.1
 have S2:=zh hs.2
 obtain ⟨d,Ed⟩:∃ y:Int,Hid ((q.den:Int)=y):=⟨_,zh rfl⟩
 have hdn:d.natAbs=q.den:=by rw [← Ed.out,Int.natAbs_natCast]
 have hd1:0<d:=by rw [← Ed.out];omega
 have hsg:sgnz d=1:=by unfold sgnz;rw [if_neg zo,if_neg zo]
 have hdf:decide (d<0)=false:=by simp;omega
 have HDN:=zh hdn
 have HSG:=zh hsg
 have HDF:=zh hdf
 have HR1:Hid (q.num.natAbs.gcd d.natAbs=1):=by unfold Hid;rw [hdn];exact hr
 rw [Ed.out] at HL2 HD ⊢
 clear hq hs hl1 hl2 hr hd hdn hd1 hsg hdf
 go_enter Tryz.func152,Tryz.ntmps152
 go_wp2_with fail
 refine (HC.out _).mono ?_
 rintro e v1 ⟨rfl,hc1⟩
 have BR:=Box.later (Box.at1 _ _ _ _) hc1;have cBR:=BR.cell;have fBR:=BR.free
 have B0:=Box.later (Box.alloc (Box.new _ _ _) _) hc1;have cB0:=B0.cell;have fB0:=B0.free
 go_wp2_with fail
 refine (HD.out _).mono ?_
 rintro e v2 ⟨rfl,hc2⟩
 replace BR:=Box.later (BR) hc2;replace cBR:=BR.cell;replace fBR:=BR.free
 replace B0:=Box.later (B0) hc2;replace cB0:=B0.cell;replace fB0:=B0.free
 go_wp2_with fail
 refine wp_region_walk [(.pure,0),(.read,1),(.pure,3),(.read,4),(.ext,2),(.ext,5),(.alloc #[.slice none 0 0,.bool false] 151,6),(.alloc #[.slice none 0 0,.bool false] 151,7),(.fin,8),(.fin,9)] zk zk zR zP ?_
 repeat (first|(refine walk_pure0 rfl rfl fun J h=>?_;go_simp;refine h _ ?_;clear h J)|(refine walk_load rfl rfl rfl rfl fun J h=>?_;go_simp;refine h _ ?_;clear h J;try go_simp))
 refine walk_ext rfl rfl (fun w3 hb3 J hJ=>?_);go_simp
 replace BR:=Box.later (Box.drew BR) hb3;replace cBR:=BR.cell;replace fBR:=BR.free
 replace B0:=Box.later (Box.drew B0) hb3;replace cB0:=B0.cell;replace fB0:=B0.free
 refine (number_ok q.num HL1.out _).mono ?_
 rintro e v3 ⟨v,rfl,hc3,hv⟩
 obtain ⟨paHN,lHN,caHN,rfl,HN⟩:=hv;replace HN:=zh HN
 replace BR:=Box.later (BR) hc3;replace cBR:=BR.cell;replace fBR:=BR.free
 replace B0:=Box.later (B0) hc3;replace cB0:=B0.cell;replace fB0:=B0.free
 refine hJ _ _ hc3 ?_
 clear hJ J
 refine walk_ext rfl rfl (fun w4 hb4 J hJ=>?_);go_simp
 replace BR:=Box.later (BR) hb4;replace cBR:=BR.cell;replace fBR:=BR.free
 replace B0:=Box.later (B0) hb4;replace cB0:=B0.cell;replace fB0:=B0.free
 refine (number_ok d HL2.out _).mono ?_
 rintro e v4 ⟨v,rfl,hc4,hv⟩
 obtain ⟨paHM,lHM,caHM,rfl,HM⟩:=hv;replace HM:=zh HM
 replace BR:=Box.later (BR) hc4;replace cBR:=BR.cell;replace fBR:=BR.free
 replace B0:=Box.later (B0) hc4;replace cB0:=B0.cell;replace fB0:=B0.free
 refine hJ _ _ hc4 ?_
 clear hJ J
 refine walk_alloc rfl (fun b1 w5 hw5 hNb1 hltb1 hAb1 hxb1=>?_);go_simp;replace hxb1:Box _ _ _ _:=hxb1;have hWb1:w.heap.size≤b1:=(by first|omega|exact Nat.le_trans (Below.size (B:=w.heap.size) belA) hNb1)
 replace BR:=Box.later (BR) hw5;replace cBR:=BR.cell;replace fBR:=BR.free
 refine walk_alloc rfl (fun b2 w6 hw6 hNb2 hltb2 hAb2 hxb2=>?_);go_simp;replace hxb2:Box _ _ _ _:=hxb2;have hWb2:w.heap.size≤b2:=(by first|omega|exact Nat.le_trans (Below.size (B:=w.heap.size) belA) hNb2)
 replace BR:=Box.later (BR) hw6;replace cBR:=BR.cell;replace fBR:=BR.free;replace hxb1:=Box.later (hxb1) hw6;replace chxb1:=hxb1.cell;replace fhxb1:=hxb1.free
 refine walk_fin [_,_] rfl (fun w7 hb7=>?_)
 replace BR:=Box.later (BR) hb7;replace cBR:=BR.cell;replace fBR:=BR.free;replace hxb1:=Box.later (hxb1) hb7;replace chxb1:=hxb1.cell;replace fhxb1:=hxb1.free;replace hxb2:=Box.later (hxb2) hb7;replace chxb2:=hxb2.cell;replace fhxb2:=hxb2.free
 have n1:b1≠b2:=fun e=>hAb2 (by simp [e])
 have n2:b2≠b1:=fun e=>n1 e.symm
 have n3:=BR.ne hxb1 zd
 have n4:=BR.ne hxb2 zd
 go_wp2_with fail
 refine ((sign_ok _ d _ (IntV.of_neg magA)).mono (by rw [HSG.out];exact fun _ _ h=>h)).mono ?_
 rintro e v5 ⟨rfl,hc5⟩
 replace HN:=zh (Mag.carry HN.out magA hc5)
 replace HM:=zh (Mag.carry HM.out magA hc5)
 replace hxb1:Box _ (b1) _ _:=Box.later boxA hc5;(try simp only [List.setIfInBounds_toArray,List.set_cons_zero,List.set_cons_succ] at hxb1);replace chxb1:=hxb1.cell;replace fhxb1:=hxb1.free
 replace hxb2:Box _ (b2) _ _:=Box.later boxA hc5;(try simp only [List.setIfInBounds_toArray,List.set_cons_zero,List.set_cons_succ] at hxb2);replace chxb2:=hxb2.cell;replace fhxb2:=hxb2.free
 replace BR:Box _ (w.heap.size+1) _ _:=Box.later boxA hc5;(try simp only [List.setIfInBounds_toArray,List.set_cons_zero,List.set_cons_succ] at BR);replace cBR:=BR.cell;replace fBR:=BR.free
 go_wp2_with fail
 refine ((gcd_ok _ _ q.num.natAbs d.natAbs _ magA magA (Nat.le_trans S1.out zo) (by rw [HDN.out];exact Nat.le_trans S2.out zo)).mono (by rw [HR1.out];exact fun _ _ h=>h)).mono ?_
 rintro e v6 ⟨v,rfl,hc6,hv⟩
 obtain ⟨paHG,lHG,caHG,rfl⟩:=hv.slice;have HG:=zh hv;clear hv
 replace HN:=zh (Mag.later HN.out hc6)
 replace HM:=zh (Mag.later HM.out hc6)
 replace hxb1:=Box.later (hxb1) hc6;replace chxb1:=hxb1.cell;replace fhxb1:=hxb1.free
 replace hxb2:=Box.later (hxb2) hc6;replace chxb2:=hxb2.cell;replace fhxb2:=hxb2.free
 replace BR:=Box.later (BR) hc6;replace cBR:=BR.cell;replace fBR:=BR.free
 go_wp2_with fail
 refine ((compare_ok _ _ 1 1 _ magA (Mag.lit zo zo)).mono (by rw [sgn_eq];exact fun _ _ h=>h)).mono ?_
 rintro e v7 ⟨rfl,hc7⟩
 replace HN:=zh (Mag.carry HN.out magA hc7)
 replace HM:=zh (Mag.carry HM.out magA hc7)
 replace hxb1:Box _ (b1) _ _:=Box.later boxA hc7;(try simp only [List.setIfInBounds_toArray,List.set_cons_zero,List.set_cons_succ] at hxb1);replace chxb1:=hxb1.cell;replace fhxb1:=hxb1.free
 replace hxb2:Box _ (b2) _ _:=Box.later boxA hc7;(try simp only [List.setIfInBounds_toArray,List.set_cons_zero,List.set_cons_succ] at hxb2);replace chxb2:=hxb2.cell;replace fhxb2:=hxb2.free
 replace BR:Box _ (w.heap.size+1) _ _:=Box.later boxA hc7;(try simp only [List.setIfInBounds_toArray,List.set_cons_zero,List.set_cons_succ] at BR);replace cBR:=BR.cell;replace fBR:=BR.free
 go_wp2_with fail
 refine ret_ct rfl rfl boxA Tryz.underlying153 rfl zk ?_
 refine ⟨_,rfl,belA,RatV.mk q.num.natAbs d.natAbs magA magA rfl HDN.out rfl⟩
theorem read_bad_sign (n d:Int) (hl1:(Lib.decDigits n.natAbs).length≤600) (hl2:(Lib.decDigits d.natAbs).length≤600) (hd:d≤0) (w:World) :
  Calls Tryz.prog 152 #[.agg #[.string ⟨(Lib.itoa n).toArray⟩,.string ⟨(Lib.itoa d).toArray⟩]] w (ReadNone w):=by
 have HC:=zh (check_yes (s:=⟨(Lib.itoa n).toArray⟩) (whole_of_itoa hl1))
 have HD:=zh (check_yes (s:=⟨(Lib.itoa d).toArray⟩) (whole_of_itoa hl2))
 have HL1:=zh hl1
 have HL2:=zh hl2
 have hs:sgnz d=0∨sgnz d= -1:=by
  unfold sgnz
  by_cases h:d=0
  ·rw [if_pos h];exact .inl rfl
  ·rw [if_neg h,if_pos zo];exact .inr rfl
 clear hl1 hl2 hd
 rcases hs with hs|hs
 all_goals
  have HSG:=zh hs
  clear hs
  go_enter Tryz.func152,Tryz.ntmps152
  go_wp2_with fail
  refine (HC.out _).mono ?_
  rintro e v1 ⟨rfl,hc1⟩
  have BR:=Box.later (Box.at1 _ _ _ _) hc1;have cBR:=BR.cell;have fBR:=BR.free
  have B0:=Box.later (Box.alloc (Box.new _ _ _) _) hc1;have cB0:=B0.cell;have fB0:=B0.free
  go_wp2_with fail
  refine (HD.out _).mono ?_
  rintro e v2 ⟨rfl,hc2⟩
  replace BR:=Box.later (BR) hc2;replace cBR:=BR.cell;replace fBR:=BR.free
  replace B0:=Box.later (B0) hc2;replace cB0:=B0.cell;replace fB0:=B0.free
  go_wp2_with fail
  refine wp_region_walk [(.pure,0),(.read,1),(.pure,3),(.read,4),(.ext,2),(.ext,5),(.alloc #[.slice none 0 0,.bool false] 151,6),(.alloc #[.slice none 0 0,.bool false] 151,7),(.fin,8),(.fin,9)] zk zk zR zP ?_
  repeat (first|(refine walk_pure0 rfl rfl fun J h=>?_;go_simp;refine h _ ?_;clear h J)|(refine walk_load rfl rfl rfl rfl fun J h=>?_;go_simp;refine h _ ?_;clear h J;try go_simp))
  refine walk_ext rfl rfl (fun w3 hb3 J hJ=>?_);go_simp
  replace BR:=Box.later (Box.drew BR) hb3;replace cBR:=BR.cell;replace fBR:=BR.free
  replace B0:=Box.later (Box.drew B0) hb3;replace cB0:=B0.cell;replace fB0:=B0.free
  refine (number_ok n HL1.out _).mono ?_
  rintro e v3 ⟨v,rfl,hc3,hv⟩
  obtain ⟨paHN,lHN,caHN,rfl,HN⟩:=hv;replace HN:=zh HN
  replace BR:=Box.later (BR) hc3;replace cBR:=BR.cell;replace fBR:=BR.free
  replace B0:=Box.later (B0) hc3;replace cB0:=B0.cell;replace fB0:=B0.free
  refine hJ _ _ hc3 ?_
  clear hJ J
  refine walk_ext rfl rfl (fun w4 hb4 J hJ=>?_);go_simp
  replace BR:=Box.later (BR) hb4;replace cBR:=BR.cell;replace fBR:=BR.free
  replace B0:=Box.later (B0) hb4;replace cB0:=B0.cell;replace fB0:=B0.free
  refine (number_ok d HL2.out _).mono ?_
  rintro e v4 ⟨v,rfl,hc4,hv⟩
  obtain ⟨paHM,lHM,caHM,rfl,HM⟩:=hv;replace HM:=zh HM
  replace BR:=Box.later (BR) hc4;replace cBR:=BR.cell;replace fBR:=BR.free
  replace B0:=Box.later (B0) hc4;replace cB0:=B0.cell;replace fB0:=B0.free
  refine hJ _ _ hc4 ?_
  clear hJ J
  refine walk_alloc rfl (fun b1 w5 hw5 hNb1 hltb1 hAb1 hxb1=>?_);go_simp;replace hxb1:Box _ _ _ _:=hxb1;have hWb1:w.heap.size≤b1:=(by first|omega|exact Nat.le_trans (Below.size (B:=w.heap.size) belA) hNb1)
  replace BR:=Box.later (BR) hw5;replace cBR:=BR.cell;replace fBR:=BR.free
  refine walk_alloc rfl (fun b2 w6 hw6 hNb2 hltb2 hAb2 hxb2=>?_);go_simp;replace hxb2:Box _ _ _ _:=hxb2;have hWb2:w.heap.size≤b2:=(by first|omega|exact Nat.le_trans (Below.size (B:=w.heap.size) belA) hNb2)
  replace BR:=Box.later (BR) hw6;replace cBR:=BR.cell;replace fBR:=BR.free;replace hxb1:=Box.later (hxb1) hw6;replace chxb1:=hxb1.cell;replace fhxb1:=hxb1.free
  refine walk_fin [_,_] rfl (fun w7 hb7=>?_)
  replace BR:=Box.later (BR) hb7;replace cBR:=BR.cell;replace fBR:=BR.free;replace hxb1:=Box.later (hxb1) hb7;replace chxb1:=hxb1.cell;replace fhxb1:=hxb1.free;replace hxb2:=Box.later (hxb2) hb7;replace chxb2:=hxb2.cell;replace fhxb2:=hxb2.free
  have n1:b1≠b2:=fun e=>hAb2 (by simp [e])
  have n2:b2≠b1:=fun e=>n1 e.symm
  have n3:=BR.ne hxb1 zd
  have n4:=BR.ne hxb2 zd
  go_wp2_with fail
  refine ((sign_ok _ d _ (IntV.of_neg magA)).mono (by rw [HSG.out];exact fun _ _ h=>h)).mono ?_
  rintro e v5 ⟨rfl,hc5⟩
  replace BR:Box _ (w.heap.size+1) _ _:=Box.later boxA hc5;(try simp only [List.setIfInBounds_toArray,List.set_cons_zero,List.set_cons_succ] at BR);replace cBR:=BR.cell;replace fBR:=BR.free
  go_wp2_with fail
  refine ret_ct rfl rfl boxA Tryz.underlying153 rfl zk ?_
  exact ⟨rfl,belA⟩
theorem sgn_one_ne {g:Nat} (h:g≠1):sgn g 1= -1∨sgn g 1=1:=by
 unfold sgn
 by_cases h2:g<1
 ·rw [if_pos h2];exact .inl rfl
 ·rw [if_neg h2,if_pos zo];exact .inr rfl
theorem read_bad_gcd (n d:Int) (hl1:(Lib.decDigits n.natAbs).length≤600) (hl2:(Lib.decDigits d.natAbs).length≤600) (hd:0<d) (hg:n.natAbs.gcd d.natAbs≠1) (w:World) :
  Calls Tryz.prog 152 #[.agg #[.string ⟨(Lib.itoa n).toArray⟩,.string ⟨(Lib.itoa d).toArray⟩]] w (ReadNone w):=by
 have HC:=zh (check_yes (s:=⟨(Lib.itoa n).toArray⟩) (whole_of_itoa hl1))
 have HD:=zh (check_yes (s:=⟨(Lib.itoa d).toArray⟩) (whole_of_itoa hl2))
 have HL1:=zh hl1
 have HL2:=zh hl2
 have S1:=zh (okn_sz (okn_len.2 hl1))
 have S2:=zh (okn_sz (okn_len.2 hl2))
 have hsg:sgnz d=1:=by unfold sgnz;rw [if_neg zo,if_neg zo]
 have hdf:decide (d<0)=false:=by simp;omega
 have HSG:=zh hsg
 have hs:=sgn_one_ne hg
 obtain ⟨g,Eg⟩:∃ y:Nat,Hid (n.natAbs.gcd d.natAbs=y):=⟨_,zh rfl⟩
 rw [Eg.out] at hs
 clear hl1 hl2 hd hg hsg hdf
 rcases hs with hs|hs
 all_goals
  have HS:=zh hs
  clear hs
  go_enter Tryz.func152,Tryz.ntmps152
  go_wp2_with fail
  refine (HC.out _).mono ?_
  rintro e v1 ⟨rfl,hc1⟩
  have BR:=Box.later (Box.at1 _ _ _ _) hc1;have cBR:=BR.cell;have fBR:=BR.free
  have B0:=Box.later (Box.alloc (Box.new _ _ _) _) hc1;have cB0:=B0.cell;have fB0:=B0.free
  go_wp2_with fail
  refine (HD.out _).mono ?_
  rintro e v2 ⟨rfl,hc2⟩
  replace BR:=Box.later (BR) hc2;replace cBR:=BR.cell;replace fBR:=BR.free
  replace B0:=Box.later (B0) hc2;replace cB0:=B0.cell;replace fB0:=B0.free
  go_wp2_with fail
  refine wp_region_walk [(.pure,0),(.read,1),(.pure,3),(.read,4),(.ext,2),(.ext,5),(.alloc #[.slice none 0 0,.bool false] 151,6),(.alloc #[.slice none 0 0,.bool false] 151,7),(.fin,8),(.fin,9)] zk zk zR zP ?_
  repeat (first|(refine walk_pure0 rfl rfl fun J h=>?_;go_simp;refine h _ ?_;clear h J)|(refine walk_load rfl rfl rfl rfl fun J h=>?_;go_simp;refine h _ ?_;clear h J;try go_simp))
  refine walk_ext rfl rfl (fun w3 hb3 J hJ=>?_);go_simp
  replace BR:=Box.later (Box.drew BR) hb3;replace cBR:=BR.cell;replace fBR:=BR.free
  replace B0:=Box.later (Box.drew B0) hb3;replace cB0:=B0.cell;replace fB0:=B0.free
  refine (number_ok n HL1.out _).mono ?_
  rintro e v3 ⟨v,rfl,hc3,hv⟩
  obtain ⟨paHN,lHN,caHN,rfl,HN⟩:=hv;replace HN:=zh HN
  replace BR:=Box.later (BR) hc3;replace cBR:=BR.cell;replace fBR:=BR.free
  replace B0:=Box.later (B0) hc3;replace cB0:=B0.cell;replace fB0:=B0.free
  refine hJ _ _ hc3 ?_
  clear hJ J
  refine walk_ext rfl rfl (fun w4 hb4 J hJ=>?_);go_simp
  replace BR:=Box.later (BR) hb4;replace cBR:=BR.cell;replace fBR:=BR.free
  replace B0:=Box.later (B0) hb4;replace cB0:=B0.cell;replace fB0:=B0.free
  refine (number_ok d HL2.out _).mono ?_
  rintro e v4 ⟨v,rfl,hc4,hv⟩
  obtain ⟨paHM,lHM,caHM,rfl,HM⟩:=hv;replace HM:=zh HM
  replace BR:=Box.later (BR) hc4;replace cBR:=BR.cell;replace fBR:=BR.free
  replace B0:=Box.later (B0) hc4;replace cB0:=B0.cell;replace fB0:=B0.free
  refine hJ _ _ hc4 ?_
  clear hJ J
  refine walk_alloc rfl (fun b1 w5 hw5 hNb1 hltb1 hAb1 hxb1=>?_);go_simp;replace hxb1:Box _ _ _ _:=hxb1;have hWb1:w.heap.size≤b1:=(by first|omega|exact Nat.le_trans (Below.size (B:=w.heap.size) belA) hNb1)
  replace BR:=Box.later (BR) hw5;replace cBR:=BR.cell;replace fBR:=BR.free
  refine walk_alloc rfl (fun b2 w6 hw6 hNb2 hltb2 hAb2 hxb2=>?_);go_simp;replace hxb2:Box _ _ _ _:=hxb2;have hWb2:w.heap.size≤b2:=(by first|omega|exact Nat.le_trans (Below.size (B:=w.heap.size) belA) hNb2)
  replace BR:=Box.later (BR) hw6;replace cBR:=BR.cell;replace fBR:=BR.free;replace hxb1:=Box.later (hxb1) hw6;replace chxb1:=hxb1.cell;replace fhxb1:=hxb1.free
  refine walk_fin [_,_] rfl (fun w7 hb7=>?_)
  replace BR:=Box.later (BR) hb7;replace cBR:=BR.cell;replace fBR:=BR.free;replace hxb1:=Box.later (hxb1) hb7;replace chxb1:=hxb1.cell;replace fhxb1:=hxb1.free;replace hxb2:=Box.later (hxb2) hb7;replace chxb2:=hxb2.cell;replace fhxb2:=hxb2.free
  have n1:b1≠b2:=fun e=>hAb2 (by simp [e])
  have n2:b2≠b1:=fun e=>n1 e.symm
  have n3:=BR.ne hxb1 zd
  have n4:=BR.ne hxb2 zd
  go_wp2_with fail
  refine ((sign_ok _ d _ (IntV.of_neg magA)).mono (by rw [HSG.out];exact fun _ _ h=>h)).mono ?_
  rintro e v5 ⟨rfl,hc5⟩
  replace HN:=zh (Mag.carry HN.out magA hc5)
  replace HM:=zh (Mag.carry HM.out magA hc5)
  replace hxb1:Box _ (b1) _ _:=Box.later boxA hc5;(try simp only [List.setIfInBounds_toArray,List.set_cons_zero,List.set_cons_succ] at hxb1);replace chxb1:=hxb1.cell;replace fhxb1:=hxb1.free
  replace hxb2:Box _ (b2) _ _:=Box.later boxA hc5;(try simp only [List.setIfInBounds_toArray,List.set_cons_zero,List.set_cons_succ] at hxb2);replace chxb2:=hxb2.cell;replace fhxb2:=hxb2.free
  replace BR:Box _ (w.heap.size+1) _ _:=Box.later boxA hc5;(try simp only [List.setIfInBounds_toArray,List.set_cons_zero,List.set_cons_succ] at BR);replace cBR:=BR.cell;replace fBR:=BR.free
  go_wp2_with fail
  refine ((gcd_ok _ _ n.natAbs d.natAbs _ magA magA (Nat.le_trans S1.out zo) (Nat.le_trans S2.out zo)).mono (by rw [Eg.out];exact fun _ _ h=>h)).mono ?_
  rintro e v6 ⟨v,rfl,hc6,hv⟩
  obtain ⟨paHG,lHG,caHG,rfl⟩:=hv.slice;have HG:=zh hv;clear hv
  replace HN:=zh (Mag.later HN.out hc6)
  replace HM:=zh (Mag.later HM.out hc6)
  replace hxb1:=Box.later (hxb1) hc6;replace chxb1:=hxb1.cell;replace fhxb1:=hxb1.free
  replace hxb2:=Box.later (hxb2) hc6;replace chxb2:=hxb2.cell;replace fhxb2:=hxb2.free
  replace BR:=Box.later (BR) hc6;replace cBR:=BR.cell;replace fBR:=BR.free
  go_wp2_with fail
  refine ((compare_ok _ _ g 1 _ magA (Mag.lit zo zo)).mono (by rw [HS.out];exact fun _ _ h=>h)).mono ?_
  rintro e v7 ⟨rfl,hc7⟩
  replace BR:Box _ (w.heap.size+1) _ _:=Box.later boxA hc7;(try simp only [List.setIfInBounds_toArray,List.set_cons_zero,List.set_cons_succ] at BR);replace cBR:=BR.cell;replace fBR:=BR.free
  go_wp2_with fail
  refine ret_ct rfl rfl boxA Tryz.underlying153 rfl zk ?_
  exact ⟨rfl,belA⟩
theorem read_none (a:Fr) (h:rd a=none) (w:World):Calls Tryz.prog 152 #[a.v] w (ReadNone w):=by
 obtain ⟨s,t⟩:=a
 show Calls _ _ #[.agg #[.string s,.string t]] _ _
 unfold rd at h
 simp only at h
 cases e1:Dec.whole s.data.toList with
 | none=>exact read_bad_n s t e1 w
 | some n =>
  cases e2:Dec.whole t.data.toList with
  | none=>exact read_bad_d s t n e1 e2 w
  | some d =>
   rw [e1,e2] at h
   simp only at h
   obtain ⟨h1,h2⟩:=whole_itoa e1
   obtain ⟨h3,h4⟩:=whole_itoa e2
   have hs:s=⟨(Lib.itoa n).toArray⟩:=ba_ext h1
   have ht:t=⟨(Lib.itoa d).toArray⟩:=ba_ext h3
   rw [hs,ht]
   by_cases hd:0<d
   ·refine read_bad_gcd n d h2 h4 hd (fun e=>?_) w
    rw [dif_pos ⟨hd,e⟩] at h
    cases h
   ·exact read_bad_sign n d h2 h4 zo w
theorem read_of {s t:ByteArray} {q:Rat} (h:rd ⟨s,t⟩=some q) (w:World):Calls Tryz.prog 152 #[.agg #[.string s,.string t]] w (ReadSome w q):=by
 obtain ⟨e,hq⟩:=of_rd h
 have:=read_some q hq w
 rw [← e] at this
 exact this
theorem read_not {s t:ByteArray} (h:rd ⟨s,t⟩=none) (w:World):Calls Tryz.prog 152 #[.agg #[.string s,.string t]] w (ReadNone w):=read_none ⟨s,t⟩ h w
theorem check_ok (a:Fr) (w:World) :
  Calls Tryz.prog 112 #[a.v] w (fun e w'=>e= .returned (.int .i64 (chk a))∧Below w.heap.size w w'):=by
 obtain ⟨s,t⟩:=a
 show Calls _ _ #[.agg #[.string s,.string t]] _ _
 unfold chk
 cases h:rd ⟨s,t⟩ with
 | none =>
  have HR:=zh (read_not h)
  clear h
  go_enter Tryz.func112,Tryz.ntmps112
  go_wp2_with fail
  refine (HR.out _).mono ?_
  rintro e v1 ⟨rfl,hc1⟩
  go_wp2_with fail
  go_ret
  exact ⟨rfl,belA⟩
 | some q =>
  have HR:=zh (read_of h)
  clear h
  go_enter Tryz.func112,Tryz.ntmps112
  go_wp2_with fail
  refine (HR.out _).mono ?_
  rintro e v1 ⟨v,rfl,hc1,hv⟩
  obtain ⟨paHq,lHq,caHq,pbHq,mHq,cbHq,rfl,Hq,Hqd⟩:=hv;replace Hq:=zh Hq;replace Hqd:=zh Hqd
  go_wp2_with fail
  go_ret
  exact ⟨rfl,belA⟩
def pair (x:Int × Int):Value:=.tuple #[.int .i64 x.1,.int .i64 x.2]
theorem apply_order (s t s' t':ByteArray) (w:World) :
  Calls Tryz.prog 157 #[.agg #[.string s,.string t],.agg #[.string s',.string t'],.func (.func 158) #[] #[]] w (fun e w'=>e= .returned (pair (cmpF ⟨s,t⟩ ⟨s',t'⟩))∧Below w.heap.size w w'):=by
 unfold cmpF
 cases h:rd ⟨s,t⟩ with
 | none =>
  have HR:=zh (read_not h)
  cases k:rd ⟨s',t'⟩ with
  | none =>
   have HS:=zh (read_not k)
   clear h k
   go_enter Tryz.func157,Tryz.ntmps157
   go_wp2_with fail
   refine (HR.out _).mono ?_
   rintro e v1 ⟨rfl,hc1⟩
   have B1:=Box.later (Box.at1 _ _ _ _) hc1;have cB1:=B1.cell;have fB1:=B1.free;have lB1:=B1.lt
   go_wp2_with fail
   refine (HS.out _).mono ?_
   rintro e v2 ⟨rfl,hc2⟩
   go_wp2_with fail
   go_ret2
   exact ⟨rfl,belA⟩
  | some q =>
   have HS:=zh (read_of k)
   clear h k
   go_enter Tryz.func157,Tryz.ntmps157
   go_wp2_with fail
   refine (HR.out _).mono ?_
   rintro e v1 ⟨rfl,hc1⟩
   have B1:=Box.later (Box.at1 _ _ _ _) hc1;have cB1:=B1.cell;have fB1:=B1.free;have lB1:=B1.lt
   go_wp2_with fail
   refine (HS.out _).mono ?_
   rintro e v2 ⟨v,rfl,hc2,hv⟩
   obtain ⟨paHq,lHq,caHq,pbHq,mHq,cbHq,rfl,Hq,Hqd⟩:=hv;replace Hq:=zh Hq;replace Hqd:=zh Hqd
   go_wp2_with fail
   go_ret2
   exact ⟨rfl,belA⟩
 | some p =>
  have HR:=zh (read_of h)
  cases k:rd ⟨s',t'⟩ with
  | none =>
   have HS:=zh (read_not k)
   clear h k
   go_enter Tryz.func157,Tryz.ntmps157
   go_wp2_with fail
   refine (HR.out _).mono ?_
   rintro e v1 ⟨v,rfl,hc1,hv⟩
   obtain ⟨paHp,lHp,caHp,pbHp,mHp,cbHp,rfl,Hp,Hpd⟩:=hv;replace Hp:=zh Hp;replace Hpd:=zh Hpd
   have B1:=Box.later (Box.at1 _ _ _ _) hc1;have cB1:=B1.cell;have fB1:=B1.free;have lB1:=B1.lt
   go_wp2_with fail
   refine (HS.out _).mono ?_
   rintro e v2 ⟨rfl,hc2⟩
   go_wp2_with fail
   go_ret2
   exact ⟨rfl,belA⟩
  | some q =>
   have HS:=zh (read_of k)
   have KP:=zh ((okq_sz (of_rd h).2).mono (show 67≤1000000 by omega))
   have KQ:=zh ((okq_sz (of_rd k).2).mono (show 67≤1000000 by omega))
   clear h k
   go_enter Tryz.func157,Tryz.ntmps157
   go_wp2_with fail
   refine (HR.out _).mono ?_
   rintro e v1 ⟨v,rfl,hc1,hv⟩
   obtain ⟨paHp,lHp,caHp,pbHp,mHp,cbHp,rfl,Hp,Hpd⟩:=hv;replace Hp:=zh Hp;replace Hpd:=zh Hpd
   have B1:=Box.later (Box.at1 _ _ _ _) hc1;have cB1:=B1.cell;have fB1:=B1.free;have lB1:=B1.lt
   go_wp2_with fail
   refine (HS.out _).mono ?_
   rintro e v2 ⟨v,rfl,hc2,hv⟩
   obtain ⟨paHq,lHq,caHq,pbHq,mHq,cbHq,rfl,Hq,Hqd⟩:=hv;replace Hq:=zh Hq;replace Hqd:=zh Hqd
   replace X1:Box _ (v1.heap.size) _ _:=Box.later boxA hc2;(try simp only [List.setIfInBounds_toArray,List.set_cons_zero,List.set_cons_succ] at X1);replace cX1:=X1.cell;replace fX1:=X1.free;replace lX1:=X1.lt
   go_wp2_with fail
   refine (order_ok _ _ p q _ (RatV.of magA magA) (RatV.of magA magA) KP.out KQ.out).mono ?_
   rintro e v3 ⟨rfl,hc3⟩
   go_wp2_with fail
   go_ret2
   exact ⟨rfl,belA⟩
theorem Cmp_ok (a b:Fr) (w:World) :
  Calls Tryz.prog 100 #[a.v,b.v] w (fun e w'=>e= .returned (pair (cmpF a b))∧Below w.heap.size w w'):=by
 obtain ⟨s,t⟩:=a
 obtain ⟨s',t'⟩:=b
 show Calls _ _ #[.agg #[.string s,.string t],.agg #[.string s',.string t']] _ _
 have H:=zh (apply_order s t s' t')
 unfold pair at *
 generalize cmpF ⟨s,t⟩ ⟨s',t'⟩=c at *
 obtain ⟨x,y⟩:=c
 go_enter Tryz.func100,Tryz.ntmps100
 go_wp2_with fail
 refine (H.out _).mono ?_
 rintro e v1 ⟨rfl,hc1⟩
 go_wp2_with fail
 go_ret2
 exact ⟨rfl,belA⟩
theorem floor_neg {z:Int} {d:Nat} (hd:0<d) (h:z<0):z / (d:Int)= -((z.natAbs / d+(if z.natAbs%d=0 then 0 else 1):Nat):Int):=by
 have h1:=band.neg_div z.natAbs d hd
 have e:z= -(z.natAbs:Int):=by omega
 conv=>lhs;rw [e]
 rw [h1]
 unfold band.qmag
 by_cases c:z.natAbs%d=0
 ·rw [if_neg zo,if_pos c,Nat.add_zero]
 ·rw [if_pos ⟨by omega,rfl⟩,if_neg c]
theorem floor_ok (v u:Value) (z:Int) (d:Nat) (w:World) (h:IntV w v z) (hu:Mag w u d) (hd:0<d) (kz:sz 1000000000 z.natAbs≤549755813888) (kd:sz 1000000000 d≤549755813888) :
  Calls Tryz.prog 230 #[v,u] w (fun e w'=>∃ r,e= .returned r∧Below w.heap.size w w'∧IntV w' r (z / (d:Int))):=by
 obtain ⟨paH,lH,caH,rfl,H⟩:=h;replace H:=zh H
 obtain ⟨paG,lG,caG,rfl⟩:=hu.slice;have G:=zh hu;clear hu
 have HD:=zh hd
 have KZ:=zh kz
 have KD:=zh kd
 have KQ:Hid (sz 1000000000 (z.natAbs / d)≤549755813888):=zh (Nat.le_trans (sz_mono zo (Nat.div_le_self _ _)) kz)
 obtain ⟨q,Eq⟩:∃ y:Nat,Hid (z.natAbs / d=y):=⟨_,zh rfl⟩
 obtain ⟨r,Er⟩:∃ y:Nat,Hid (z.natAbs%d=y):=⟨_,zh rfl⟩
 rw [Eq.out] at KQ
 clear hd kz kd
 by_cases hz:z<0
 ·have g1:decide (z<0)=true:=decide_eq_true hz
  go_enter Tryz.func230,Tryz.ntmps230
  go_wp2_with fail
  refine ((divide_ok _ _ z.natAbs d _ magA magA HD.out KZ.out).mono (by rw [Eq.out,Er.out];exact fun _ _ h=>h)).mono ?_
  rintro e v1 ⟨v,vr,rfl,hc1,hv,hvr⟩
  obtain ⟨paHq,lHq,caHq,rfl⟩:=hv.slice;have Hq:=zh hv;clear hv;obtain ⟨paHqr,lHqr,caHqr,rfl⟩:=hvr.slice;have Hqr:=zh hvr;clear hvr
  have BR:=Box.later (Box.at1 _ _ _ _) hc1;have cBR:=BR.cell;have fBR:=BR.free;have lBR:=BR.lt
  have B0:=Box.later (Box.alloc (Box.new _ _ _) _) hc1;have cB0:=B0.cell;have fB0:=B0.free;have lB0:=B0.lt
  go_wp2_with fail
  by_cases hr:r=0
  ·have HR0:=zh hr
   refine (zero_ok _ r _ magA).mono ?_
   rintro e v5 ⟨rfl,rfl⟩
   rw [show decide (r=0)=true from decide_eq_true hr]
   clear hr
   go_wp2_with fail
   refine (signed_ok _ q true _ magA).mono ?_
   rintro e v3 ⟨v,rfl,hc3,hv⟩
   obtain ⟨paHs,lHs,caHs,rfl,Hs⟩:=hv;replace Hs:=zh Hs
   replace BR:=Box.later (BR) hc3;replace cBR:=BR.cell;replace fBR:=BR.free;replace lBR:=BR.lt
   replace B0:=Box.later (B0) hc3;replace cB0:=B0.cell;replace fB0:=B0.free;replace lB0:=B0.lt
   go_wp2_with fail
   have HE:Hid (sgd q true=z / (d:Int)):=by
    rw [floor_neg HD.out hz,Er.out,Eq.out,if_pos HR0.out,Nat.add_zero];rfl
   refine ret_c rfl rfl boxA Tryz.underlying151 rfl zk ?_
   exact ⟨_,rfl,belA,(IntV.of_neg magA).cast HE.out⟩
  ·have HR0:=zh hr
   refine (zero_ok _ r _ magA).mono ?_
   rintro e v5 ⟨rfl,rfl⟩
   rw [show decide (r=0)=false from decide_eq_false hr]
   clear hr
   go_wp2_with fail
   refine (plus_ok _ _ q 1 _ magA (Mag.lit zo zo) (Nat.le_trans KQ.out zo) (by have:=sz_le_of_lt (B:=1000000000) zo 1 1 zo;omega)).mono ?_
   rintro e v2 ⟨v,rfl,hc2,hv⟩
   obtain ⟨paHp,lHp,caHp,rfl⟩:=hv.slice;have Hp:=zh hv;clear hv
   replace BR:Box _ (w.heap.size+1) _ _:=Box.later boxA hc2;(try simp only [List.setIfInBounds_toArray,List.set_cons_zero,List.set_cons_succ] at BR);replace cBR:=BR.cell;replace fBR:=BR.free;replace lBR:=BR.lt
   replace B0:Box _ (w.heap.size) _ _:=Box.later boxA hc2;(try simp only [List.setIfInBounds_toArray,List.set_cons_zero,List.set_cons_succ] at B0);replace cB0:=B0.cell;replace fB0:=B0.free;replace lB0:=B0.lt
   go_wp2_with fail
   refine (signed_ok _ (q+1) true _ magA).mono ?_
   rintro e v3 ⟨v,rfl,hc3,hv⟩
   obtain ⟨paHs,lHs,caHs,rfl,Hs⟩:=hv;replace Hs:=zh Hs
   replace BR:=Box.later (BR) hc3;replace cBR:=BR.cell;replace fBR:=BR.free;replace lBR:=BR.lt
   replace B0:=Box.later (B0) hc3;replace cB0:=B0.cell;replace fB0:=B0.free;replace lB0:=B0.lt
   go_wp2_with fail
   have HE:Hid (sgd (q+1) true=z / (d:Int)):=by
    rw [floor_neg HD.out hz,Er.out,Eq.out,if_neg HR0.out];rfl
   refine ret_c rfl rfl boxA Tryz.underlying151 rfl zk ?_
   exact ⟨_,rfl,belA,(IntV.of_neg magA).cast HE.out⟩
 ·have g1:decide (z<0)=false:=decide_eq_false hz
  go_enter Tryz.func230,Tryz.ntmps230
  go_wp2_with fail
  refine ((divide_ok _ _ z.natAbs d _ magA magA HD.out KZ.out).mono (by rw [Eq.out,Er.out];exact fun _ _ h=>h)).mono ?_
  rintro e v1 ⟨v,vr,rfl,hc1,hv,hvr⟩
  obtain ⟨paHq,lHq,caHq,rfl⟩:=hv.slice;have Hq:=zh hv;clear hv;obtain ⟨paHqr,lHqr,caHqr,rfl⟩:=hvr.slice;have Hqr:=zh hvr;clear hvr
  have BR:=Box.later (Box.at1 _ _ _ _) hc1;have cBR:=BR.cell;have fBR:=BR.free;have lBR:=BR.lt
  have B0:=Box.later (Box.alloc (Box.new _ _ _) _) hc1;have cB0:=B0.cell;have fB0:=B0.free;have lB0:=B0.lt
  go_wp2_with fail
  refine (signed_ok _ q false _ magA).mono ?_
  rintro e v3 ⟨v,rfl,hc3,hv⟩
  obtain ⟨paHs,lHs,caHs,rfl,Hs⟩:=hv;replace Hs:=zh Hs
  replace BR:=Box.later (BR) hc3;replace cBR:=BR.cell;replace fBR:=BR.free;replace lBR:=BR.lt
  replace B0:=Box.later (B0) hc3;replace cB0:=B0.cell;replace fB0:=B0.free;replace lB0:=B0.lt
  go_wp2_with fail
  have HE:Hid (sgd q false=z / (d:Int)):=by
   have h1:=Eq.out
   have h2:(z.natAbs:Int)=z:=by omega
   rw [← h2,← h1]
   show ((z.natAbs / d:Nat):Int)=_
   rw [Int.natCast_ediv]
  refine ret_c rfl rfl boxA Tryz.underlying151 rfl zk ?_
  exact ⟨_,rfl,belA,(IntV.of_neg magA).cast HE.out⟩
theorem near_sz {n m d:Nat} {z:Int} (hn:sz 1000000000 n≤1000000) (hs:sz 1000000000 m≤1000000) (hd:sz 1000000000 d≤1000000) (hz:z.natAbs≤n*(m*2)+d) :
  sz 1000000000 (m*2)≤1000001∧sz 1000000000 (n*(m*2))≤2000001∧sz 1000000000 z.natAbs≤2000002∧sz 1000000000 (d*2)≤1000001:=by
 have h2:=sz_le_of_lt (B:=1000000000) zo 1 2 zo
 have h3:=sz_mul (B:=1000000000) zo m 2
 have h4:=sz_mul (B:=1000000000) zo n (m*2)
 have h5:=sz_mul (B:=1000000000) zo d 2
 have h6:=sz_add (B:=1000000000) zo (n*(m*2)) d
 have h7:=sz_mono (B:=1000000000) zo hz
 refine ⟨by omega,by omega,by omega,by omega⟩
theorem near_ok (x y:Value) (q:Rat) (m:Nat) (w:World) (hx:RatV w x q) (hy:Mag w y m) (kn:sz 1000000000 q.num.natAbs≤1000000) (kd:sz 1000000000 q.den≤1000000) (km:sz 1000000000 m≤1000000) :
  Calls Tryz.prog 189 #[x,y] w (fun e w'=>∃ r,e= .returned r∧Below w.heap.size w w'∧IntV w' r (band.nearZ (q.num*(m:Int)) q.den)):=by
 obtain ⟨paH,lH,caH,pbH,mH,cbH,rfl,H,Hd⟩:=hx;replace H:=zh H;replace Hd:=zh Hd
 obtain ⟨paG,lG,caG,rfl⟩:=hy.slice;have G:=zh hy;clear hy
 have hd:0<q.den:=q.den_pos
 have HZ:=zh (near_sz (z:=q.num*((m*2:Nat):Int)+(q.den:Int)) kn km kd (by have h1:=Int.natAbs_add_le (q.num*((m*2:Nat):Int)) (q.den:Int);rw [Int.natAbs_mul,Int.natAbs_natCast,Int.natAbs_natCast] at h1;exact h1))
 have HE:Hid ((q.num*((m*2:Nat):Int)+(q.den:Int)) / ((q.den*2:Nat):Int)=band.nearZ (q.num*(m:Int)) q.den):=by
  refine zh ?_
  unfold band.nearZ
  rw [Int.natCast_mul,Int.natCast_mul,Int.mul_comm 2 (q.num*(m:Int)),Int.mul_assoc,Int.mul_comm 2 (q.den:Int)]
  rfl
 have KN:=zh kn
 have KD:=zh kd
 have KM:=zh km
 have HD:=zh hd
 have KM1:Hid (sz 1000000000 (q.num*((m*2:Nat):Int)).natAbs≤2000001):=zh (by rw [Int.natAbs_mul,Int.natAbs_natCast];exact HZ.out.2.1)
 have KD1:Hid (sz 1000000000 (sgd q.den false).natAbs≤1000000):=zh (by rw [sgd_natAbs];exact kd)
 have HS:Hid (sgd q.den false=(q.den:Int)):=zh rfl
 obtain ⟨r,Er⟩:∃ y:Int,Hid (band.nearZ (q.num*(m:Int)) q.den=y):=⟨_,zh rfl⟩
 rw [Er.out] at HE ⊢
 obtain ⟨n,En⟩:∃ y:Int,Hid (q.num=y):=⟨_,zh rfl⟩
 obtain ⟨d,Ed⟩:∃ y:Nat,Hid (q.den=y):=⟨_,zh rfl⟩
 rw [En.out] at H HE KN KM1 HZ ⊢
 rw [Ed.out] at Hd HE KD KD1 HS HD HZ
 obtain ⟨k,Ek⟩:∃ y:Nat,Hid (m*2=y):=⟨_,zh rfl⟩
 obtain ⟨e,Ee⟩:∃ y:Nat,Hid (d*2=y):=⟨_,zh rfl⟩
 obtain ⟨y,Ey⟩:∃ y:Int,Hid (n*(k:Int)+sgd d false=y):=⟨_,zh rfl⟩
 rw [Ek.out] at HE KM1 HZ
 rw [Ee.out] at HE HZ
 rw [← HS.out,Ey.out] at HE HZ
 have HD2:Hid (0<e):=zh (by have:=HD.out;have:=Ee.out;omega)
 clear kn kd km hd
 go_enter Tryz.func189,Tryz.ntmps189
 go_wp2_with fail
 have HL:Hid _:=zh (Mag.lit (w:=(w.alloc (.cells #[.slice paH lH caH,.bool (decide (n<0)),.slice pbH mH cbH] 153)).alloc (.cells #[.slice none 0 0,.bool false] 151)) (d:=2) zo zo)
 simp at HL
 refine wp_region_walk [(.pure,0),(.read,1),(.pure,2),(.pure,3),(.pure,6),(.read,7),(.ext,4),(.ext,5),(.ext,8),(.ext,9),(.alloc #[.slice none 0 0,.bool false] 151,10),(.fin,11)] zk zk zR zP ?_
 repeat (first|(refine walk_pure0 rfl rfl fun J h=>?_;go_simp;refine h _ ?_;clear h J)|(refine walk_load rfl rfl rfl rfl fun J h=>?_;go_simp;refine h _ ?_;clear h J;try go_simp))
 refine walk_ext rfl rfl (fun w1 hb1 J hJ=>?_);go_simp
 replace H:=zh (Mag.carry H.out magA hb1)
 replace Hd:=zh (Mag.carry Hd.out magA hb1)
 replace HL:=zh (Mag.carry HL.out magA hb1)
 have BR:=Box.later (Box.drew (Box.alloc (Box.at1 _ _ _ _) _)) hb1;have cBR:=BR.cell;have fBR:=BR.free;have lBR:=BR.lt
 have B0:=Box.later (Box.drew (Box.alloc (Box.alloc (Box.new _ _ _) _) _)) hb1;have cB0:=B0.cell;have fB0:=B0.free;have lB0:=B0.lt
 refine ((times_ok _ _ m 2 _ magA magA (Nat.le_trans KM.out zo) (by have:=sz_le_of_lt (B:=1000000000) zo 1 2 zo;omega)).mono (by rw [Ek.out];exact fun _ _ h=>h)).mono ?_
 rintro e v1 ⟨v,rfl,hc1,hv⟩
 obtain ⟨paHa,lHa,caHa,rfl⟩:=hv.slice;have Ha:=zh hv;clear hv
 replace H:=zh (Mag.later H.out hc1)
 replace Hd:=zh (Mag.later Hd.out hc1)
 replace HL:=zh (Mag.later HL.out hc1)
 replace BR:=Box.later (BR) hc1;replace cBR:=BR.cell;replace fBR:=BR.free;replace lBR:=BR.lt
 replace B0:=Box.later (B0) hc1;replace cB0:=B0.cell;replace fB0:=B0.free;replace lB0:=B0.lt
 refine hJ _ _ hc1 ?_
 clear hJ J
 refine walk_ext rfl rfl (fun w2 hb2 J hJ=>?_);go_simp
 replace Ha:=zh (Mag.later Ha.out hb2)
 replace H:=zh (Mag.later H.out hb2)
 replace Hd:=zh (Mag.later Hd.out hb2)
 replace HL:=zh (Mag.later HL.out hb2)
 replace BR:=Box.later (BR) hb2;replace cBR:=BR.cell;replace fBR:=BR.free;replace lBR:=BR.lt
 replace B0:=Box.later (B0) hb2;replace cB0:=B0.cell;replace fB0:=B0.free;replace lB0:=B0.lt
 refine (scaled_ok _ _ n k _ (IntV.of_neg magA) magA (Nat.le_trans KN.out zo) (Nat.le_trans HZ.out.1 zo)).mono ?_
 rintro e v2 ⟨v,rfl,hc2,hv⟩
 obtain ⟨paHb,lHb,caHb,rfl,Hb⟩:=hv;replace Hb:=zh Hb
 replace Ha:=zh (Mag.later Ha.out hc2)
 replace H:=zh (Mag.later H.out hc2)
 replace Hd:=zh (Mag.later Hd.out hc2)
 replace HL:=zh (Mag.later HL.out hc2)
 replace BR:=Box.later (BR) hc2;replace cBR:=BR.cell;replace fBR:=BR.free;replace lBR:=BR.lt
 replace B0:=Box.later (B0) hc2;replace cB0:=B0.cell;replace fB0:=B0.free;replace lB0:=B0.lt
 refine hJ _ _ hc2 ?_
 clear hJ J
 refine walk_ext rfl rfl (fun w3 hb3 J hJ=>?_);go_simp
 replace Hb:=zh (Mag.later Hb.out hb3)
 replace Hd:=zh (Mag.later Hd.out hb3)
 replace HL:=zh (Mag.later HL.out hb3)
 replace BR:=Box.later (BR) hb3;replace cBR:=BR.cell;replace fBR:=BR.free;replace lBR:=BR.lt
 replace B0:=Box.later (B0) hb3;replace cB0:=B0.cell;replace fB0:=B0.free;replace lB0:=B0.lt
 refine (signed_ok _ d false _ magA).mono ?_
 rintro e v3 ⟨v,rfl,hc3,hv⟩
 obtain ⟨paHc,lHc,caHc,rfl,Hc⟩:=hv;replace Hc:=zh Hc
 replace Hb:=zh (Mag.later Hb.out hc3)
 replace Hd:=zh (Mag.later Hd.out hc3)
 replace HL:=zh (Mag.later HL.out hc3)
 replace BR:=Box.later (BR) hc3;replace cBR:=BR.cell;replace fBR:=BR.free;replace lBR:=BR.lt
 replace B0:=Box.later (B0) hc3;replace cB0:=B0.cell;replace fB0:=B0.free;replace lB0:=B0.lt
 refine hJ _ _ hc3 ?_
 clear hJ J
 refine walk_ext rfl rfl (fun w4 hb4 J hJ=>?_);go_simp
 replace Hd:=zh (Mag.later Hd.out hb4)
 replace HL:=zh (Mag.later HL.out hb4)
 replace Hc:=zh (Mag.later Hc.out hb4)
 replace BR:=Box.later (BR) hb4;replace cBR:=BR.cell;replace fBR:=BR.free;replace lBR:=BR.lt
 replace B0:=Box.later (B0) hb4;replace cB0:=B0.cell;replace fB0:=B0.free;replace lB0:=B0.lt
 refine ((sum_ok _ _ (n*(k:Int)) (sgd d false) _ (IntV.of_neg magA) (IntV.of_neg magA) (Nat.le_trans KM1.out zo) (Nat.le_trans KD1.out zo)).mono (by rw [Ey.out];exact fun _ _ h=>h)).mono ?_
 rintro e v4 ⟨v,rfl,hc4,hv⟩
 obtain ⟨paHs,lHs,caHs,rfl,Hs⟩:=hv;replace Hs:=zh Hs
 replace Hd:=zh (Mag.later Hd.out hc4)
 replace HL:=zh (Mag.later HL.out hc4)
 replace Hc:=zh (Mag.later Hc.out hc4)
 replace BR:=Box.later (BR) hc4;replace cBR:=BR.cell;replace fBR:=BR.free;replace lBR:=BR.lt
 replace B0:=Box.later (B0) hc4;replace cB0:=B0.cell;replace fB0:=B0.free;replace lB0:=B0.lt
 refine hJ _ _ hc4 ?_
 clear hJ J
 refine walk_alloc rfl (fun b w5 hw5 hNb hltb hAb hxb=>?_);go_simp;replace hxb:Box _ _ _ _:=hxb;have hWb:w.heap.size≤b:=(by first|omega|exact Nat.le_trans (Below.size (B:=w.heap.size) belA) hNb)
 refine walk_fin [_] rfl (fun w6 hb6=>?_)
 replace hxb:=Box.later (hxb) hb6;replace chxb:=hxb.cell;replace fhxb:=hxb.free;replace lhxb:=hxb.lt
 have h46:Below v4.heap.size v4 w6:=belA
 replace BR:=Box.later (BR) h46;replace cBR:=BR.cell;replace fBR:=BR.free;replace lBR:=BR.lt;replace Hs:=zh (Mag.later Hs.out h46)
 replace B0:=Box.later (B0) h46;replace cB0:=B0.cell;replace fB0:=B0.free;replace lB0:=B0.lt;replace Hd:=zh (Mag.later Hd.out h46)
 replace HL:=zh (Mag.later HL.out h46)
 have hNe:w.heap.size+1+1+1≤b:=hNb
 have n0:w.heap.size≠b:=by omega
 have n1:w.heap.size+1≠b:=by omega
 have h6:Below w.heap.size w w6:=belA
 go_wp2_with fail
 obtain ⟨w7,E7⟩:∃ x,(w6.setCell ⟨b,0,none⟩ (.slice paHs lHs caHs)).setCell ⟨b,1,none⟩ (.bool (decide (y<0)))=x:=⟨_,rfl⟩
 have h7:Below w.heap.size w w7:=by
  rw [← E7]
  have:w.heap.size≤b:=by omega
  exact (h6.setCell this _).setCell this _
 replace BR:Box w7 (w.heap.size+1) #[.slice none 0 0,.bool false] 151:=by rw [← E7];exact (BR.setOther _ n1).setOther _ n1
 replace B0:Box w7 w.heap.size #[.slice paH lH caH,.bool (decide (n<0)),.slice pbH mH cbH] 153:=by rw [← E7];exact (B0.setOther _ n0).setOther _ n0
 have set7:∀ {v:Value} {x:Nat},Mag w6 v x→Mag w7 v x:=fun h=>by rw [← E7];exact (h.setOther hxb zd _ _).setOther (hxb.set 0 _) zd _ _
 replace Hs:=zh (set7 Hs.out)
 replace Hd:=zh (set7 Hd.out)
 replace HL:=zh (set7 HL.out)
 replace hxb:Box w7 b #[.slice paHs lHs caHs,.bool (decide (y<0))] 151:=by rw [← E7];exact (hxb.set 0 _).set 1 _
 rw [E7]
 clear E7 set7 h6 h46 hb6 hb1 hc1 hc2 hc3 hc4
 have cBR:=Box.cell BR;have lBR:=Box.lt BR;have fBR:=Box.free BR
 have cB0:=Box.cell B0;have lB0:=Box.lt B0;have fB0:=Box.free B0
 have chxb:=Box.cell hxb;have lhxb:=Box.lt hxb;have fhxb:=Box.free hxb
 refine wp_region_walk [(.read,0),(.pure,1),(.read,2),(.pure,3),(.ext,4),(.ext,5),(.fin,6)] zk zk zR zP ?_
 repeat (first|(refine walk_pure0 rfl rfl fun J h=>?_;go_simp;refine h _ ?_;clear h J)|(refine walk_load rfl rfl rfl rfl fun J h=>?_;go_simp;refine h _ ?_;clear h J;try go_simp))
 refine walk_ext rfl rfl (fun w5 hb5 J hJ=>?_);go_simp
 replace Hs:=zh (Mag.carry Hs.out magA hb5)
 replace BR:Box _ (w.heap.size+1) _ _:=Box.later boxA hb5;(try simp only [List.setIfInBounds_toArray,List.set_cons_zero,List.set_cons_succ] at BR);replace cBR:=BR.cell;replace fBR:=BR.free;replace lBR:=BR.lt
 refine ((times_ok _ _ d 2 _ magA magA (Nat.le_trans KD.out zo) (by have:=sz_le_of_lt (B:=1000000000) zo 1 2 zo;omega)).mono (by rw [Ee.out];exact fun _ _ h=>h)).mono ?_
 rintro e v5 ⟨v,rfl,hc5,hv⟩
 obtain ⟨paHa,lHa,caHa,rfl⟩:=hv.slice;have Ha:=zh hv;clear hv
 replace Hs:=zh (Mag.later Hs.out hc5)
 replace BR:=Box.later (BR) hc5;replace cBR:=BR.cell;replace fBR:=BR.free;replace lBR:=BR.lt
 refine hJ _ _ hc5 ?_
 clear hJ J
 refine walk_ext rfl rfl (fun w6 hb6 J hJ=>?_);go_simp
 replace BR:=Box.later (BR) hb6;replace cBR:=BR.cell;replace fBR:=BR.free;replace lBR:=BR.lt
 refine ((floor_ok _ _ y e _ (IntV.of_neg magA) magA HD2.out (Nat.le_trans HZ.out.2.2.1 zo) (Nat.le_trans HZ.out.2.2.2 zo)).mono (by rw [HE.out];exact fun _ _ h=>h)).mono ?_
 rintro e v6 ⟨v,rfl,hc6,hv⟩
 obtain ⟨paHr,lHr,caHr,rfl,Hr⟩:=hv;replace Hr:=zh Hr
 replace BR:=Box.later (BR) hc6;replace cBR:=BR.cell;replace fBR:=BR.free;replace lBR:=BR.lt
 refine hJ _ _ hc6 ?_
 clear hJ J
 refine walk_fin [_] rfl (fun w9 hb9=>?_)
 replace BR:=Box.later (BR) hb9;replace cBR:=BR.cell;replace fBR:=BR.free;replace lBR:=BR.lt
 go_wp2_with fail
 refine ret_c rfl rfl boxA Tryz.underlying151 rfl zk ?_
 exact ⟨_,rfl,belA,IntV.of_neg magA⟩
end Go.Proofs.frac
namespace Go.Dec
open Go Go.Lib
theorem parseU_dec (n:Nat):parseUintB 64 (decDigits n)=if n≤18446744073709551615 then .ok n else .range:=by
 obtain ⟨c,r,hc⟩:∃ c r,decDigits n=c::r:=by
  cases h:decDigits n with
  | nil=>exact absurd h (dec_ne n)
  | cons c r=>exact ⟨c,r,rfl⟩
 have hd:=digS_dec n
 have hn:=num_dec n
 rw [hc] at hd hn ⊢
 have hu:parseUintB 64 (c::r)=parseUintM 18446744073709551615 0 (c::r):=by
  unfold parseUintB
  rw [if_neg zi]
 rw [hu,parse_digits _ _ hd zo,hn,Nat.zero_mul,Nat.zero_add]
theorem parse_itoaZ (z:Int):parseIntB 64 (itoa z)=if -9223372036854775808≤z∧z<9223372036854775808 then .ok z else .range:=by
 rcases Int.lt_or_le z 0 with h|h
 ·obtain ⟨n,rfl⟩:∃ n:Nat,z= -(n:Int):=⟨z.natAbs,by omega⟩
  have hi:itoa (-(n:Int))=45::decDigits n:=by
   unfold itoa
   rw [if_pos h,Int.natAbs_neg,Int.natAbs_natCast]
  rw [hi,parseIntB_minus,parseU_dec]
  have e:(2:Nat)^(64 - 1)=9223372036854775808:=by decide
  rw [e]
  by_cases h1:n≤18446744073709551615
  ·rw [if_pos h1]
   unfold signedC
   by_cases h2:9223372036854775808<n
   ·simp only
    rw [if_pos h2,if_neg zo]
   ·simp only
    rw [if_neg h2,if_pos zo]
  ·rw [if_neg h1,if_neg zo]
   rfl
 ·obtain ⟨n,rfl⟩:∃ n:Nat,z=(n:Int):=⟨z.natAbs,by omega⟩
  rw [parse_itoa]
  by_cases h2:n<9223372036854775808
  ·rw [if_pos h2,if_pos zo]
  ·rw [if_neg h2,if_neg zo]
end Go.Dec
namespace Go.Proofs.whole
open Go Go.RowKit Go.SW Go.Num Go.Mem Go.Proofs Go.Dec Go.Fra
def intZ (z:Int):Value:=if -9223372036854775808≤z∧z<9223372036854775808 then .tuple #[.int .i64 z,.int .i64 0] else .tuple #[.int .i64 0,.int .i64 6]
theorem parseZ_ok (z:Int) (hs:(Lib.itoa z).length≤601) (w:World) (he:Er w) :
  Calls Tryz.prog 229 #[itxt z,.int .i64 10,.int .i64 64] w (fun e w'=>(if -9223372036854775808≤z∧z<9223372036854775808 then e= .returned (.tuple #[.int .i64 z,.nilIface]) else ∃ T p,e= .returned (.tuple #[.int .i64 (Lib.intSat 64 (Lib.itoa z)),.iface T (.pointer (some p))]))∧Below w.heap.size w w'):=by
 have hz:(⟨(Lib.itoa z).toArray⟩:ByteArray).size≤601:=hs
 have hp:=parse_itoaZ z
 by_cases h: -9223372036854775808≤z∧z<9223372036854775808
 ·rw [if_pos h] at hp
  refine (Tryz.strconv_ParseInt_10_at64_ok ⟨(Lib.itoa z).toArray⟩ zo z hp w).mono ?_
  rintro e w1 ⟨rfl,hw⟩
  refine ⟨by rw [if_pos h],?_⟩
  rcases hw with rfl|⟨t,rfl⟩
  ·exact Below.refl _ _
  ·exact Lib.bytesWorld_below _ _ _
 ·rw [if_neg h] at hp
  obtain ⟨tp,p,h1,h2⟩:=he
  have hc:=World.var?_cell (P:=Tryz.prog) (w:=w) Tryz.laysC174.m16 h1 0
  refine (Tryz.strconv_ParseInt_10_at64_range ⟨(Lib.itoa z).toArray⟩ zo hp (.iface tp p) w hc (Or.inr ⟨tp,p,rfl⟩)).mono ?_
  rintro e w1 ⟨N,rfl, -, -, hb⟩
  refine ⟨?_,hb⟩
  rw [if_neg h]
  exact ⟨_,_,rfl⟩
theorem IntZ_ok (z:Int) (hn:okn z.natAbs=true) (w:World) (he:Er w) :
  Calls Tryz.prog 188 #[itxt z] w (fun e w'=>e= .returned (intZ z)∧Below w.heap.size w w'):=by
 have hd:(Lib.decDigits z.natAbs).length≤600:=okn_len.1 hn
 have hi:(Lib.itoa z).length≤601:=by
  unfold Lib.itoa
  by_cases h:z<0
  ·rw [if_pos h,List.length_cons]
   omega
  ·rw [if_neg h,show z.toNat=z.natAbs by omega]
   omega
 have hw:(whole (Lib.itoa z)).isSome=true:=by rw [whole_of_itoa hd];rfl
 have HC:Hid (∀ W:World,Calls Tryz.prog 203 #[itxt z] W (fun e w'=>e= .returned (.int .i64 0)∧Below W.heap.size W w')):=zh (by
  intro W
  have:=check_ok ⟨(Lib.itoa z).toArray⟩ W
  rw [show (⟨(Lib.itoa z).toArray⟩:ByteArray).data.toList=Lib.itoa z from rfl,hw] at this
  exact this)
 have HP:=zh (fun W h=>parseZ_ok z hi W h)
 have HE:=zh he
 unfold intZ
 clear hd hi hw he hn
 unfold itxt at *
 generalize Lib.itoa z=t at *
 by_cases h: -9223372036854775808≤z∧z<9223372036854775808
 ·simp only [if_pos h] at HP ⊢
  go_enter Tryz.func188,Tryz.ntmps188
  go_wp2_with fail
  refine (HC.out _).mono ?_
  rintro e w1 ⟨rfl,hb1⟩
  have HB1:=zh hb1
  clear hb1
  go_wp2_with fail
  refine (HP.out _ (HE.out.later HB1.out)).mono ?_
  rintro e w2 ⟨rfl,hb2⟩
  have hw:=Bt HB1.out hb2
  clear hb2 HB1
  go_wp2_with fail
  go_ret2
  exact ⟨rfl,hw⟩
 ·simp only [if_neg h] at HP ⊢
  go_enter Tryz.func188,Tryz.ntmps188
  go_wp2_with fail
  refine (HC.out _).mono ?_
  rintro e w1 ⟨rfl,hb1⟩
  have HB1:=zh hb1
  clear hb1
  go_wp2_with fail
  refine (HP.out _ (HE.out.later HB1.out)).mono ?_
  rintro e w2 ⟨⟨T,p,rfl⟩,hb2⟩
  have hw:=Bt HB1.out hb2
  clear hb2 HB1
  go_wp2_with fail
  go_ret2
  exact ⟨rfl,hw⟩
end Go.Proofs.whole
