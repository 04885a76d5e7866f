/- Lemmas for the proof. No condition. -/
import Derived.Test.YtfhappbmgghgdaaGreatDoorH01
import Derived.Test.YtfhappbmgghgdaaGreatDoorH02
set_option linter.unusedVariables false
set_option linter.unusedSimpArgs false
set_option maxRecDepth 100000
set_option maxHeartbeats 16000000
namespace Go.Proofs.verdigrislaw05
open Go Go.RowKit Go.SW Go.Num Go.Mem Go.Proofs Go.Dec Go.dF Go.Proofs.matrix Go.Proofs.aI
theorem neqFr_nb (a1 a2:ByteArray) (w:World):(binOp .neq 59 (.agg #[.string a1,.string a2]) (.agg #[.string a1,.string a2])).run Tryz.prog w= .ok (.bool false) w:=by go_simp
theorem little_fits {m:List (List Fr)} (h:Little m):Zu m:=fun r hr x hx=>by
 have:=(h.2 r hr).2 x hx
 exact ⟨by omega,by omega⟩
theorem own_at {v:Value} {m:List (List Fr)} {n:Nat} {w:World} (h:aP w v m) (hl:Little m) (hn:m.length=n) :
  Calls Tryz.prog 26 #[v] w (fun e w'=>∃ a c,e= .returned (.slice a n c)∧Below w.heap.size w w'∧aP w' (.slice a n c) m):=by
 have:=own_ok v m w (maR h)
 rw [own_same hl,hn] at this
 exact this
def AnyN (W:World) (n:Nat) (k:Int) (R:List (List Fr)) (e:Ending) (w':World):Prop:=∃ a c,e= .returned (.tuple #[.slice a n c,.int .i64 k])∧Below W.heap.size W w'∧aP w' (.slice a n c) R
def orM (k:Int) (m:List (List Fr)):List (List Fr):=if k=0 then m else []
theorem aP.none (w:World):aP w (.slice none 0 0) []:=⟨[],Row.nil _ _,rfl,fun i hi=>by cases hi⟩
theorem any_of {W w':World} {k:Int} {m:List (List Fr)} {n:Nat} {e:Ending} (h:MatPost W k m e w') (hn:(orM k m).length=n):AnyN W n k (orM k m) e w':=by
 obtain ⟨h1,v,rfl,h2,h3⟩:=h
 subst hn
 unfold orM
 by_cases hk:k=0
 ·rw [if_pos hk]
  obtain ⟨a,c,rfl⟩:=aP.sl (h2 hk)
  exact ⟨a,c,rfl,h1,h2 hk⟩
 ·rw [if_neg hk]
  rw [h3 hk]
  exact ⟨none,0,rfl,h1,aP.none w'⟩
theorem inverses_main (r c r1 c1:Int) (A B v v1:Value) (n0 n1 n2 n3 n4:Nat) (M0 M1 M2 M3 M4:List (List Fr)) (w:World) (ht:qP.Pow w) (he:whole.Er w) (hA:∃ a n c,A= .slice a n c) (hB:∃ a n c,B= .slice a n c) (hv:jw w v) (hv1:jw w v1)
  (l0:Little M0∧M0.length=n0) (l1:Little M1∧M1.length=n1) (l2:Little M2∧M2.length=n2) (l3:Little M3∧M3.length=n3) (l4:Little M4∧M4.length=n4)
  (HO:Hid (∀ W,Below w.heap.size w W→Calls Tryz.prog 26 #[A] W (fun e w'=>∃ a c,e= .returned (.slice a n0 c)∧Below W.heap.size W w'∧aP w' (.slice a n0 c) M0)))
  (H1:Hid (∀ W,Below w.heap.size w W→Calls Tryz.prog 32 #[.agg #[.int .u8 r,.int .u8 c,v]] W (fun e w'=>∃ a cc,e= .returned (.slice a n1 cc)∧Below W.heap.size W w'∧aP w' (.slice a n1 cc) M1)))
  (H2:Hid (∀ W,Below w.heap.size w W→Calls Tryz.prog 33 #[.agg #[.int .u8 r,.int .u8 c,v]] W (fun e w'=>∃ a cc,e= .returned (.slice a n2 cc)∧Below W.heap.size W w'∧aP w' (.slice a n2 cc) M2)))
  (H3:Hid (∀ W,Below w.heap.size w W→Calls Tryz.prog 33 #[.agg #[.int .u8 r1,.int .u8 c1,v1]] W (fun e w'=>∃ a cc,e= .returned (.slice a n3 cc)∧Below W.heap.size W w'∧aP w' (.slice a n3 cc) M3)))
  (H4:Hid (∀ W,Below w.heap.size w W→Calls Tryz.prog 34 #[.agg #[.int .u8 r,.int .u8 c,v],.int .i64 3,.int .i64 3] W (fun e w'=>∃ a cc,e= .returned (.slice a n4 cc)∧Below W.heap.size W w'∧aP w' (.slice a n4 cc) M4))) :
  Calls Tryz.prog 5 #[.agg #[A,B,.int .u8 r,.int .u8 c,v,.int .u8 r1,.int .u8 c1,v1]] w (fun e w'=>e= .returned (.bool true)∧Below w.heap.size w w'):=by
 have HP:=zh ht
 have HE:=zh he
 have HW:=zh (fun W (h1:qP.Pow W) (h2:whole.Er W)=>works_ok W h1 h2)
 obtain ⟨aA,nA,cA,rfl⟩:=hA
 obtain ⟨aB,nB,cB,rfl⟩:=hB
 obtain ⟨a0,nd,cap,rfl, -, -⟩:=hv
 obtain ⟨a1,nd1,aG6,rfl, -, -⟩:=hv1
 have L0:=zh l0
 have L1:=zh l1
 have L2:=zh l2
 have L3:=zh l3
 have L4:=zh l4
 clear ht he l0 l1 l2 l3 l4
 go_enter Tryz.func5,Tryz.ntmps5
 go_wp2_with fail
 obtain ⟨u0,EW,hz,HX⟩:=al1 w #[.slice aA nA cA,.slice aB nB cB,.int .u8 r,.int .u8 c,.slice a0 nd cap,.int .u8 r1,.int .u8 c1,.slice a1 nd1 aG6] 28
 rw [EW]
 have HB:=zh hz
 clear EW hz
 refine (HW.out _ (HP.out.later HB.out) (HE.out.later HB.out)).mono ?_
 rintro e u1 ⟨rfl,h⟩
 replace HX:=zh (HX.out.later h)
 replace HB:=zh (Bt HB.out h)
 clear h
 go_wp2_with fail
 have Po:=zh (Below.refl u1.heap.size u1)
 refine aD [(.pure,0),(.read,1),(.pure,3),(.read,4),(.pure,6),(.read,7),(.pure,9),(.read,10),(.pure,12),(.read,13),(.pure,16),(.ext,2),(.ext,5),(.ext,8),(.ext,11),(.ext,14),(.pure,15)] zk zk zR zP ?_
 refine Wk.out ?_
 have cHX:=HX.out.cell
 have lHX:=HX.out.lt
 repeat (first|(apply wk_skip;(rfl);(rfl);(rfl);(intro J hJ;go_simp;(with_reducible refine hJ _ ?_);clear hJ J))|(apply wk_len;(rfl);(rfl);(rfl);(rfl);(exact zk);(intro J hJ;go_simp;(with_reducible refine hJ _ ?_);clear hJ J))|(apply wk_pure;(rfl);(rfl);(intro J hJ;go_simp;(with_reducible refine hJ _ ?_);clear hJ J))|(apply wk_load;(rfl);(rfl);(rfl);(rfl);(intro J hJ;go_simp;(with_reducible refine hJ _ ?_);clear hJ J;try go_simp)))
 clear cHX lHX
 refine wk_ext rfl rfl (fun we hbe J hJ=>?_)
 go_simp
 have hx:Below u1.heap.size u1 we:=belA
 have jr:=zh (Bt HB.out hx)
 refine (HO.out _ jr.out).mono ?_
 rintro e u2 ⟨b0,d0,rfl,h,hm⟩
 have hy:=Bt hx h
 refine hJ _ _ h ?_
 clear hJ J hbe hx h jr
 replace HX:=zh (HX.out.later hy)
 replace HB:=zh (Bt HB.out hy)
 replace Po:=zh (Bt Po.out hy)
 clear hy
 have F0:=zh hm
 clear hm
 have cHX:=HX.out.cell
 have lHX:=HX.out.lt
 repeat (first|(apply wk_skip;(rfl);(rfl);(rfl);(intro J hJ;go_simp;(with_reducible refine hJ _ ?_);clear hJ J))|(apply wk_len;(rfl);(rfl);(rfl);(rfl);(exact zk);(intro J hJ;go_simp;(with_reducible refine hJ _ ?_);clear hJ J))|(apply wk_pure;(rfl);(rfl);(intro J hJ;go_simp;(with_reducible refine hJ _ ?_);clear hJ J))|(apply wk_load;(rfl);(rfl);(rfl);(rfl);(intro J hJ;go_simp;(with_reducible refine hJ _ ?_);clear hJ J;try go_simp)))
 clear cHX lHX
 refine wk_ext rfl rfl (fun we hbe J hJ=>?_)
 go_simp
 have hx:Below u2.heap.size u2 we:=belA
 have jr:=zh (Bt HB.out hx)
 refine (H1.out _ jr.out).mono ?_
 rintro e u3 ⟨b1,d1,rfl,h,hm⟩
 have hy:=Bt hx h
 refine hJ _ _ h ?_
 clear hJ J hbe hx h jr
 replace HX:=zh (HX.out.later hy)
 replace F0:=zh (F0.out.later hy)
 replace HB:=zh (Bt HB.out hy)
 replace Po:=zh (Bt Po.out hy)
 clear hy
 have F1:=zh hm
 clear hm
 have cHX:=HX.out.cell
 have lHX:=HX.out.lt
 repeat (first|(apply wk_skip;(rfl);(rfl);(rfl);(intro J hJ;go_simp;(with_reducible refine hJ _ ?_);clear hJ J))|(apply wk_len;(rfl);(rfl);(rfl);(rfl);(exact zk);(intro J hJ;go_simp;(with_reducible refine hJ _ ?_);clear hJ J))|(apply wk_pure;(rfl);(rfl);(intro J hJ;go_simp;(with_reducible refine hJ _ ?_);clear hJ J))|(apply wk_load;(rfl);(rfl);(rfl);(rfl);(intro J hJ;go_simp;(with_reducible refine hJ _ ?_);clear hJ J;try go_simp)))
 clear cHX lHX
 refine wk_ext rfl rfl (fun we hbe J hJ=>?_)
 go_simp
 have hx:Below u3.heap.size u3 we:=belA
 have jr:=zh (Bt HB.out hx)
 refine (H2.out _ jr.out).mono ?_
 rintro e u4 ⟨b2,d2,rfl,h,hm⟩
 have hy:=Bt hx h
 refine hJ _ _ h ?_
 clear hJ J hbe hx h jr
 replace HX:=zh (HX.out.later hy)
 replace F0:=zh (F0.out.later hy)
 replace F1:=zh (F1.out.later hy)
 replace HB:=zh (Bt HB.out hy)
 replace Po:=zh (Bt Po.out hy)
 clear hy
 have F2:=zh hm
 clear hm
 have cHX:=HX.out.cell
 have lHX:=HX.out.lt
 repeat (first|(apply wk_skip;(rfl);(rfl);(rfl);(intro J hJ;go_simp;(with_reducible refine hJ _ ?_);clear hJ J))|(apply wk_len;(rfl);(rfl);(rfl);(rfl);(exact zk);(intro J hJ;go_simp;(with_reducible refine hJ _ ?_);clear hJ J))|(apply wk_pure;(rfl);(rfl);(intro J hJ;go_simp;(with_reducible refine hJ _ ?_);clear hJ J))|(apply wk_load;(rfl);(rfl);(rfl);(rfl);(intro J hJ;go_simp;(with_reducible refine hJ _ ?_);clear hJ J;try go_simp)))
 clear cHX lHX
 refine wk_ext rfl rfl (fun we hbe J hJ=>?_)
 go_simp
 have hx:Below u4.heap.size u4 we:=belA
 have jr:=zh (Bt HB.out hx)
 refine (H3.out _ jr.out).mono ?_
 rintro e u5 ⟨b3,d3,rfl,h,hm⟩
 have hy:=Bt hx h
 refine hJ _ _ h ?_
 clear hJ J hbe hx h jr
 replace HX:=zh (HX.out.later hy)
 replace F0:=zh (F0.out.later hy)
 replace F1:=zh (F1.out.later hy)
 replace F2:=zh (F2.out.later hy)
 replace HB:=zh (Bt HB.out hy)
 replace Po:=zh (Bt Po.out hy)
 clear hy
 have F3:=zh hm
 clear hm
 have cHX:=HX.out.cell
 have lHX:=HX.out.lt
 repeat (first|(apply wk_skip;(rfl);(rfl);(rfl);(intro J hJ;go_simp;(with_reducible refine hJ _ ?_);clear hJ J))|(apply wk_len;(rfl);(rfl);(rfl);(rfl);(exact zk);(intro J hJ;go_simp;(with_reducible refine hJ _ ?_);clear hJ J))|(apply wk_pure;(rfl);(rfl);(intro J hJ;go_simp;(with_reducible refine hJ _ ?_);clear hJ J))|(apply wk_load;(rfl);(rfl);(rfl);(rfl);(intro J hJ;go_simp;(with_reducible refine hJ _ ?_);clear hJ J;try go_simp)))
 clear cHX lHX
 refine wk_ext rfl rfl (fun we hbe J hJ=>?_)
 go_simp
 have hx:Below u5.heap.size u5 we:=belA
 have jr:=zh (Bt HB.out hx)
 refine (H4.out _ jr.out).mono ?_
 rintro e u6 ⟨b4,d4,rfl,h,hm⟩
 have hy:=Bt hx h
 refine hJ _ _ h ?_
 clear hJ J hbe hx h jr
 replace HX:=zh (HX.out.later hy)
 replace F0:=zh (F0.out.later hy)
 replace F1:=zh (F1.out.later hy)
 replace F2:=zh (F2.out.later hy)
 replace F3:=zh (F3.out.later hy)
 replace HB:=zh (Bt HB.out hy)
 replace Po:=zh (Bt Po.out hy)
 clear hy
 have F4:=zh hm
 clear hm
 have cHX:=HX.out.cell
 have lHX:=HX.out.lt
 repeat (first|(apply wk_skip;(rfl);(rfl);(rfl);(intro J hJ;go_simp;(with_reducible refine hJ _ ?_);clear hJ J))|(apply wk_len;(rfl);(rfl);(rfl);(rfl);(exact zk);(intro J hJ;go_simp;(with_reducible refine hJ _ ?_);clear hJ J))|(apply wk_pure;(rfl);(rfl);(intro J hJ;go_simp;(with_reducible refine hJ _ ?_);clear hJ J))|(apply wk_load;(rfl);(rfl);(rfl);(rfl);(intro J hJ;go_simp;(with_reducible refine hJ _ ?_);clear hJ J;try go_simp)))
 clear cHX lHX
 refine wk_nil (fun u7 hbf=>?_)
 have hy:Below u6.heap.size u6 u7:=belA
 replace HX:=zh (HX.out.later hy)
 replace F0:=zh (F0.out.later hy)
 replace F1:=zh (F1.out.later hy)
 replace F2:=zh (F2.out.later hy)
 replace F3:=zh (F3.out.later hy)
 replace F4:=zh (F4.out.later hy)
 replace HB:=zh (Bt HB.out hy)
 clear hy hbf Po
 obtain ⟨wz,EZ⟩:∃ y,y=u7:=⟨_,rfl⟩
 have HV:Hid (∀ k:Nat,k<5→∃ a n c M,(∀ W,(Instr.index 56 (.agg #[.slice b0 n0 d0,.slice b1 n1 d1,.slice b2 n2 d2,.slice b3 n3 d3,.slice b4 n4 d4]) (.int .i64 (k:Int))).run Tryz.prog W= .ok (.slice a n c) W)∧aP wz (.slice a n c) M∧Little M∧M.length=n):=zh fun k hk=>by
  rw [EZ]
  have:k=0∨k=1∨k=2∨k=3∨k=4:=by omega
  rcases this with rfl|rfl|rfl|rfl|rfl
  ·exact ⟨b0,n0,d0,M0,fun W=>by kernel_rfl,F0.out,L0.out⟩
  ·exact ⟨b1,n1,d1,M1,fun W=>by kernel_rfl,F1.out,L1.out⟩
  ·exact ⟨b2,n2,d2,M2,fun W=>by kernel_rfl,F2.out,L2.out⟩
  ·exact ⟨b3,n3,d3,M3,fun W=>by kernel_rfl,F3.out,L3.out⟩
  ·exact ⟨b4,n4,d4,M4,fun W=>by kernel_rfl,F4.out,L4.out⟩
 have HBW:=HB
 replace HP:=zh (HP.out.later HB.out)
 clear HO H1 H2 H3 H4 L0 L1 L2 L3 L4 F0 F1 F2 F3 F4 HE HW HX HB
 rw [← EZ] at HP HBW ⊢
 clear EZ
 go_wp2_with fail
 go_loopw [32] (fun iv wr=>∃ k:Nat,iv= .int .i64 (k:Int)∧k≤5∧Below wz.heap.size wz wr) (fun iv _=>5 - (intOf iv).toNat)
 case atStart=>exact ⟨0,rfl,by omega,Below.refl _ _⟩
 case round =>
  obtain ⟨k,rfl,hk,hb⟩:=hrel
  rcases Nat.lt_or_ge k 5 with hlt|hge
  ·obtain ⟨a,n,cc,M,hix,hM,hL,hn⟩:=HV.out k hlt
   have FM:=zh (hM.later hb)
   have OW:=zh (fun v W (h:aP W v M)=>own_at h hL hn)
   obtain ⟨⟨⟨s,t⟩,er⟩,ED⟩:∃ y,ag7 M=y:=⟨_,rfl⟩
   have D1:=zh (fun v W (h:aP W v M) (hp:qP.Pow W)=>ED ▸ Det_at v M W h hp)
   have D2:=zh (fun v W (h:aP W v M)=>ED ▸ Det_any v M W h (little_fits hL))
   unfold Fr.res Fr.v at D1 D2
   obtain ⟨ei,EI⟩:∃ y,uy M=y:=⟨_,rfl⟩
   obtain ⟨R,ER⟩:∃ y,orM ei (Gp M)=y:=⟨_,rfl⟩
   obtain ⟨nr,EN⟩:∃ y,R.length=y:=⟨_,rfl⟩
   have I1:Hid (∀ v W,aP W v M→qP.Pow W→Calls Tryz.prog 37 #[v] W (AnyN W nr ei R)):=zh fun v W h hp=>by
    have:=Inv_at v M W h hp
    rw [EI] at this
    exact this.mono fun _ _ q=>ER ▸ any_of q (by rw [ER];exact EN)
   have I2:Hid (∀ v W,aP W v M→Calls Tryz.prog 38 #[v] W (AnyN W nr ei R)):=zh fun v W h=>by
    have:=Inverse_any v M W h (little_fits hL)
    rw [EI] at this
    exact this.mono fun _ _ q=>ER ▸ any_of q (by rw [ER];exact EN)
   have HB:=zh hb
   have hkk:(k:Int)<5:=by omega
   clear hM hL hn hb ED EI ER EN
   go_wp2_with fail
   clear hix hkk
   refine (OW.out _ _ FM.out).mono ?_
   rintro e u1 ⟨a5,c5,rfl,h,hm⟩
   replace FM:=zh (FM.out.later h)
   replace HB:=zh (Bt HB.out h)
   clear h
   have FO:=zh hm
   clear hm
   go_wp2_with fail
   refine (D1.out _ _ FO.out (HP.out.later HB.out)).mono ?_
   rintro e u2 ⟨rfl,h⟩
   replace FM:=zh (FM.out.later h)
   replace FO:=zh (FO.out.later h)
   replace HB:=zh (Bt HB.out h)
   clear h
   go_wp2_with fail
   obtain ⟨wd2,EW,h,G1⟩:=al1 u2 #[.string s,.string t] 59
   rw [EW]
   clear EW
   obtain ⟨bd2,eb⟩:∃ y,u2.heap.size=y:=⟨_,rfl⟩
   rw [eb] at G1 ⊢
   clear eb
   replace FM:=zh (FM.out.later h)
   replace FO:=zh (FO.out.later h)
   replace HB:=zh (Bt HB.out h)
   clear h
   refine (D2.out _ _ FM.out).mono ?_
   rintro e u3 ⟨rfl,h⟩
   replace FM:=zh (FM.out.later h)
   replace FO:=zh (FO.out.later h)
   replace G1:=zh (G1.out.later h)
   replace HB:=zh (Bt HB.out h)
   clear h
   go_wp2_with fail
   obtain ⟨wd3,EW,h,G2⟩:=al1 u3 #[.string s,.string t] 59
   rw [EW]
   clear EW
   obtain ⟨bd3,eb⟩:∃ y,u3.heap.size=y:=⟨_,rfl⟩
   rw [eb] at G2 ⊢
   clear eb
   replace FM:=zh (FM.out.later h)
   replace FO:=zh (FO.out.later h)
   replace G1:=zh (G1.out.later h)
   replace HB:=zh (Bt HB.out h)
   clear h
   go_wp2_with fail
   refine (I1.out _ _ FO.out (HP.out.later HB.out)).mono ?_
   rintro e u4 ⟨a6,c6,rfl,h,hm⟩
   replace FM:=zh (FM.out.later h)
   replace FO:=zh (FO.out.later h)
   replace G1:=zh (G1.out.later h)
   replace G2:=zh (G2.out.later h)
   replace HB:=zh (Bt HB.out h)
   clear h
   have FI:=zh hm
   clear hm
   go_wp2_with fail
   refine (I2.out _ _ FM.out).mono ?_
   rintro e u5 ⟨a7,c7,rfl,h,hm⟩
   replace FM:=zh (FM.out.later h)
   replace FO:=zh (FO.out.later h)
   replace G1:=zh (G1.out.later h)
   replace G2:=zh (G2.out.later h)
   replace FI:=zh (FI.out.later h)
   replace HB:=zh (Bt HB.out h)
   clear h
   have FJ:=zh hm
   clear hm
   have Qk:= @neqFr_nb
   have cG1:=G1.out.cell
   have lG1:=G1.out.lt
   have cG2:=G2.out.cell
   have lG2:=G2.out.lt
   go_wp2_with fail
   clear cG1 lG1
   clear cG2 lG2
   refine (aI.xV _ _ R _ FI.out FJ.out).mono ?_
   rintro e u6 ⟨rfl,h⟩
   replace FM:=zh (FM.out.later h)
   replace FO:=zh (FO.out.later h)
   replace G1:=zh (G1.out.later h)
   replace G2:=zh (G2.out.later h)
   replace FI:=zh (FI.out.later h)
   replace FJ:=zh (FJ.out.later h)
   replace HB:=zh (Bt HB.out h)
   clear h
   go_wp2_with fail
   refine (aI.xV _ _ M _ FO.out FM.out).mono ?_
   rintro e u7 ⟨rfl,h⟩
   replace FM:=zh (FM.out.later h)
   replace FO:=zh (FO.out.later h)
   replace G1:=zh (G1.out.later h)
   replace G2:=zh (G2.out.later h)
   replace FI:=zh (FI.out.later h)
   replace FJ:=zh (FJ.out.later h)
   replace HB:=zh (Bt HB.out h)
   clear h
   go_wp2_with fail
   have hz:=HB.out
   go_roundw
   case rel=>exact ⟨k+1,by go_num,by omega,hz⟩
   case measure=>exact zM
  ·obtain rfl:k=5:=by omega
   go_wp2_with fail
   go_ret
   exact ⟨rfl,Bt HBW.out hb⟩
theorem sm_short {q:Rat} (h:Sm q):(Fr.of q).n.size≤40∧(Fr.of q).d.size≤40:=by
 have key:∀ z:Int,z.natAbs≤999→(Lib.itoa z).length≤4:=fun z hz=>Nat.le_trans (itoa_len z) (Nat.succ_le_succ (Dec.dec_len_le 3 _ zo zo))
 have h1:=key q.num h.2.1
 have h2:=key (q.den:Int) (by have:=h.2.2;omega)
 have e:∀ l:List UInt8,(⟨l.toArray⟩:ByteArray).size=l.length:=fun l=>by simp [ByteArray.size]
 unfold Fr.of
 constructor
 ·show (⟨(Lib.itoa q.num).toArray⟩:ByteArray).size≤40
  rw [e];omega
 ·show (⟨(Lib.itoa (q.den:Int)).toArray⟩:ByteArray).size≤40
  rw [e];omega
theorem little_mk {n k:Nat} {f:Nat→Nat→Rat} (hn:n≤4) (hk:k≤4) (h:∀ i j,Sm (f i j)):Little (mkR n k f).fr∧(mkR n k f).fr.length=n:=by
 refine ⟨⟨?_,fun r hr=>?_⟩,by rw [fr_len,mkR_len]⟩
 ·rw [fr_len,mkR_len];omega
 ·obtain ⟨s,hs,rfl⟩:=List.mem_map.1 hr
  have hl:=mkR_row hs
  refine ⟨by rw [List.length_map,hl];omega,fun x hx=>?_⟩
  obtain ⟨q,hq,rfl⟩:=List.mem_map.1 hx
  obtain ⟨i, -, rfl⟩:=List.mem_map.1 hs
  obtain ⟨j, -, rfl⟩:=List.mem_map.1 hq
  exact sm_short (h i j)
theorem inverses_ok (r c r1 c1:Int) (A B v v1:Value) (mA:List (List Fr)) (w:World) (hr:0≤r∧r≤255) (hc:0≤c∧c≤255) (hr1:0≤r1∧r1≤255) (ht:qP.Pow w) (he:whole.Er w) (hA:MaR w A mA) (hB:∃ a n c,B= .slice a n c) (hv:jw w v) (hv1:jw w v1) :
  Calls Tryz.prog 5 #[.agg #[A,B,.int .u8 r,.int .u8 c,v,.int .u8 r1,.int .u8 c1,v1]] w (fun e w'=>e= .returned (.bool true)∧Below w.heap.size w w'):=by
 obtain ⟨G,hG⟩:=DrG.of r c hv
 obtain ⟨G1,hG1⟩:=DrG.of r1 c1 hv1
 obtain ⟨n,hn⟩:∃ n:Nat,1+r%4=(n:Int):=⟨(1+r%4).toNat,by omega⟩
 obtain ⟨k,hk⟩:∃ n:Nat,1+c%4=(n:Int):=⟨(1+c%4).toNat,by omega⟩
 obtain ⟨m,hm⟩:∃ n:Nat,1+r1%4=(n:Int):=⟨(1+r1%4).toNat,by omega⟩
 have n1:n≤4:=by omega
 have k1:k≤4:=by omega
 have m1:m≤4:=by omega
 have fs:∀ i j,Sm (G (4*i+j)):=fun i j=>hG.1 _
 have gs:∀ i j,Sm (G1 (4*i+j)):=fun i j=>hG1.1 _
 have eA:∃ a n c,A= .slice a n c:=by obtain ⟨a,cap,h, -⟩:=hA;exact ⟨a,_,cap,h⟩
 exact inverses_main r c r1 c1 A B v v1 _ n n m 3 (pE mA) (mkR n k fun i j=>G (4*i+j)).fr (mkR n n fun i j=>G (4*i+j)).fr (mkR m m fun i j=>G1 (4*i+j)).fr (mkR 3 3 fun i j=>G (4*i+j)).fr w ht he eA hB hv hv1
  ⟨own_little mA,rfl⟩ (little_mk n1 k1 fs) (little_mk n1 n1 fs) (little_mk m1 m1 gs) (little_mk zo zo fs)
  (zh fun W hW=>own_ok A mA W (hA.later hW))
  (zh (mat_G (G:=G) hr hc hv n k hn hk _ fun W hW=>sized_G hG hv n k n1 k1 W hW))
  (zh (square_G (c:=c) (G:=G) hr hv n hn _ fun W hW=>sized_G hG hv n n n1 n1 W hW))
  (zh (square_G (c:=c1) (G:=G1) hr1 hv1 m hm _ fun W hW=>sized_G hG1 hv1 m m m1 m1 W hW))
  (zh fun W hW=>sized_G hG hv 3 3 zo zo W hW)
end Go.Proofs.verdigrislaw05
