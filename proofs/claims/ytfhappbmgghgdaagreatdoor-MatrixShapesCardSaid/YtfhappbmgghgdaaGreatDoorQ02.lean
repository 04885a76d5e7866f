/- Lemmas for the proof. No condition. -/
import Derived.Test.YtfhappbmgghgdaaGreatDoorQ01
set_option linter.unusedVariables false
set_option linter.unusedSimpArgs false
set_option maxRecDepth 100000
set_option maxHeartbeats 16000000
namespace Go.Proofs.verdigrislaw05
open Go Go.RowKit Go.SW Go.Num Go.Mem Go.Proofs Go.Dec Go.dF Go.Proofs.matrix Go.Proofs.aI
theorem shapes_main (r c r1 c1 n0 z0:Int) (A B v v1 vl:Value) (MA MB M1 M2 M4 M5:List (List Fr)) (nc nd0:Nat) (LC LD:List Fr) (w:World) (hz0:IntKind.u64.wrap n0=z0) (hd0:z0.tmod 6=(nd0:Int)) (hd5:nd0≤5) (ht:qP.Pow w) (he:whole.Er w) (hA:∃ a n c,A= .slice a n c) (hB:∃ a n c,B= .slice a n c) (hv:jw w v) (hv1:jw w v1) (hl:∃ a n c,vl= .slice a n c)
  (hL:∀ M,M∈[MA,MB,M1,M2,M4,M5]→Little M)
  (HPR:Hid (PrC w (.agg #[A,B,.int .u8 r,.int .u8 c,v,.int .u8 r1,.int .u8 c1,v1]) MA MB M1 M2 M4 M5))
  (HCU:Hid (GivL w 16 #[vl] nc LC)) (hLC:LitL LC∧LC.length=nc)
  (HD:Hid (GivL w 17 #[.agg #[.int .u8 r,.int .u8 c,v],.int .i64 (nd0:Int)] nd0 LD)) (hLD:LitL LD∧LD.length=nd0) :
  Calls Tryz.prog 3 #[.agg #[A,B,.int .u8 r,.int .u8 c,v,.int .u8 r1,.int .u8 c1,v1],.int .i64 n0,vl] w (fun e w'=>e= .returned (.bool true)∧Below w.heap.size w w'):=by
 have HP:=zh ht
 have HE:=zh he
 have HW:=zh (fun W (h1:qP.Pow W) (h2:whole.Er W)=>works_ok W h1 h2)
 have y3:IntKind.u64.wrap (nd0:Int)=(nd0:Int):=by unfold IntKind.wrap;simp [IntKind.bits,IntKind.signed];omega
 have y5:IntKind.i64.wrap (nd0:Int)=(nd0:Int):=by unfold IntKind.wrap;simp [IntKind.bits,IntKind.signed];omega
 obtain ⟨aA,nA,cA,rfl⟩:=hA
 obtain ⟨aB,nB,cB,rfl⟩:=hB
 obtain ⟨a0,nd,cap,rfl, -, -⟩:=hv
 obtain ⟨a1,nd1,aG6,rfl, -, -⟩:=hv1
 obtain ⟨al,nl,cl',rfl⟩:=hl
 have LL:=zh hL
 have LK:=zh hLC
 have LD':=zh hLD
 clear ht he hL hLC hLD hd5
 go_enter Tryz.func3,Tryz.ntmps3
 go_wp2_with fail
 obtain ⟨u0,EW,hz,HX⟩:=al1 w #[.slice aA nA cA,.slice aB nB cB,.int .u8 r,.int .u8 c,.slice a0 nd cap,.int .u8 r1,.int .u8 c1,.slice a1 nd1 aG6] 28
 rw [EW]
 have HB:=zh hz
 clear EW hz
 refine (HW.out _ (HP.out.later HB.out) (HE.out.later HB.out)).mono ?_
 rintro e u1 ⟨rfl,h⟩
 replace HX:=zh (HX.out.later h)
 replace HB:=zh (Bt HB.out h)
 clear h
 obtain ⟨wz,EZ⟩:∃ y,y=u1:=⟨_,rfl⟩
 have HV:Hid (∀ j:Nat,j<2→∃ z:Int,∀ W,(Instr.index 32 (.agg #[.int .i64 n0,.int .i64 (nd0:Int)]) (.int .i64 (j:Int))).run Tryz.prog W= .ok (.int .i64 z) W):=zh fun j hj=>by
  have:j=0∨j=1:=by omega
  rcases this with rfl|rfl
  ·exact ⟨n0,fun W=>by kernel_rfl⟩
  ·exact ⟨(nd0:Int),fun W=>by kernel_rfl⟩
 have HBW:=HB
 replace HP:=zh (HP.out.later HB.out)
 clear HW HE HB
 rw [← EZ] at HP HX HBW ⊢
 clear EZ
 go_wp2_with fail
 go_loopw [33] (fun iv wr=>∃ k:Nat,iv= .int .i64 (k:Int)∧k≤2∧Below wz.heap.size wz wr) (fun iv _=>2 - (intOf iv).toNat)
 case atStart=>exact ⟨0,rfl,by omega,Below.refl _ _⟩
 case round =>
  obtain ⟨k,rfl,hk,hb⟩:=hrel
  rcases Nat.lt_or_ge k 2 with hlt|hge
  ·obtain ⟨z,hix⟩:=HV.out k hlt
   obtain ⟨ei,EI⟩:∃ y,idE z=y:=⟨_,rfl⟩
   obtain ⟨R,ER⟩:∃ y,orM ei (kE (List.replicate z.toNat Fr.one))=y:=⟨_,rfl⟩
   obtain ⟨nr,EN⟩:∃ y,R.length=y:=⟨_,rfl⟩
   have I1:Hid (∀ W,Calls Tryz.prog 13 #[.int .i64 z] W (AnyN W nr ei R)):=zh fun W=>by
    have:=Identity_ok z W
    rw [EI] at this
    exact this.mono fun _ _ q=>ER ▸ any_of q (by rw [ER];exact EN)
   have I2:Hid (∀ W,Calls Tryz.prog 14 #[.int .i64 z] W (AnyN W nr ei R)):=zh fun W=>by
    have:=aI.Identity_any z W
    rw [EI] at this
    exact this.mono fun _ _ q=>ER ▸ any_of q (by rw [ER];exact EN)
   have HB:=zh hb
   have hkk:(k:Int)<2:=by omega
   clear hb EI ER EN
   go_wp2_with fail
   clear hix hkk
   refine (I1.out _).mono ?_
   rintro e u1 ⟨a6,c6,rfl,h,hm⟩
   replace HB:=zh (Bt HB.out h)
   clear h
   have FI:=zh hm
   clear hm
   go_wp2_with fail
   refine (I2.out _).mono ?_
   rintro e u2 ⟨a7,c7,rfl,h,hm⟩
   replace FI:=zh (FI.out.later h)
   replace HB:=zh (Bt HB.out h)
   clear h
   have FJ:=zh hm
   clear hm
   go_wp2_with fail
   refine (aI.xV _ _ R _ FI.out FJ.out).mono ?_
   rintro e u3 ⟨rfl,h⟩
   replace FI:=zh (FI.out.later h)
   replace FJ:=zh (FJ.out.later h)
   replace HB:=zh (Bt HB.out h)
   clear h
   go_wp2_with fail
   have hz:=HB.out
   go_roundw
   case rel=>exact ⟨k+1,by go_num,by omega,hz⟩
   case measure=>exact zM
  ·obtain rfl:k=2:=by omega
   replace HP:=zh (HP.out.later hb)
   replace HX:=zh (HX.out.later hb)
   have HB:=zh (Bt HBW.out hb)
   have cHX:=HX.out.cell
   have lHX:=HX.out.lt
   clear HV HBW
   go_wp2_with fail
   clear cHX lHX hb
   have Po:=zh (Below.refl wr.heap.size wr)
   refine aD [(.pure,0),(.pure,2),(.read,3),(.pure,4),(.pure,5),(.pure,6),(.pure,7),(.pure,10),(.ext,1),(.ext,8),(.pure,9)] zk zk zR zP ?_
   refine Wk.out ?_
   have cHX:=HX.out.cell
   have lHX:=HX.out.lt
   repeat (first|(apply wk_skip;(rfl);(rfl);(rfl);(intro J hJ;go_simp;(with_reducible refine hJ _ ?_);clear hJ J))|(apply wk_len;(rfl);(rfl);(rfl);(rfl);(exact zk);(intro J hJ;go_simp;(with_reducible refine hJ _ ?_);clear hJ J))|(apply wk_pure;(rfl);(rfl);(intro J hJ;go_simp;(with_reducible refine hJ _ ?_);clear hJ J))|(apply wk_load;(rfl);(rfl);(rfl);(rfl);(intro J hJ;go_simp;(with_reducible refine hJ _ ?_);clear hJ J;try go_simp)))
   clear cHX lHX
   refine wk_ext rfl rfl (fun we hbe J hJ=>?_)
   go_simp
   have hx:Below wr.heap.size wr we:=belA
   have jr:=zh (Bt HB.out hx)
   refine (HCU.out _ jr.out).mono ?_
   rintro e u1 ⟨ac,cc,rfl,h,hm⟩
   have hy:=Bt hx h
   refine hJ _ _ h ?_
   clear hJ J hbe hx h jr
   replace HX:=zh (HX.out.later hy)
   replace HP:=zh (HP.out.later hy)
   replace HB:=zh (Bt HB.out hy)
   replace Po:=zh (Bt Po.out hy)
   clear hy
   have FC:=zh hm
   clear hm
   have cHX:=HX.out.cell
   have lHX:=HX.out.lt
   repeat (first|(apply wk_skip;(rfl);(rfl);(rfl);(intro J hJ;go_simp;(with_reducible refine hJ _ ?_);clear hJ J))|(apply wk_len;(rfl);(rfl);(rfl);(rfl);(exact zk);(intro J hJ;go_simp;(with_reducible refine hJ _ ?_);clear hJ J))|(apply wk_pure;(rfl);(rfl);(intro J hJ;go_simp;(with_reducible refine hJ _ ?_);clear hJ J))|(apply wk_load;(rfl);(rfl);(rfl);(rfl);(intro J hJ;go_simp;(with_reducible refine hJ _ ?_);clear hJ J;try go_simp)))
   clear cHX lHX
   refine wk_ext rfl rfl (fun we hbe J hJ=>?_)
   go_simp
   have hx:Below u1.heap.size u1 we:=belA
   have jr:=zh (Bt HB.out hx)
   refine (HD.out _ jr.out).mono ?_
   rintro e u2 ⟨ad,cd,rfl,h,hm⟩
   have hy:=Bt hx h
   refine hJ _ _ h ?_
   clear hJ J hbe hx h jr
   replace HX:=zh (HX.out.later hy)
   replace HP:=zh (HP.out.later hy)
   replace FC:=zh (FC.out.later hy)
   replace HB:=zh (Bt HB.out hy)
   replace Po:=zh (Bt Po.out hy)
   clear hy
   have FD:=zh hm
   clear hm
   have cHX:=HX.out.cell
   have lHX:=HX.out.lt
   repeat (first|(apply wk_skip;(rfl);(rfl);(rfl);(intro J hJ;go_simp;(with_reducible refine hJ _ ?_);clear hJ J))|(apply wk_len;(rfl);(rfl);(rfl);(rfl);(exact zk);(intro J hJ;go_simp;(with_reducible refine hJ _ ?_);clear hJ J))|(apply wk_pure;(rfl);(rfl);(intro J hJ;go_simp;(with_reducible refine hJ _ ?_);clear hJ J))|(apply wk_load;(rfl);(rfl);(rfl);(rfl);(intro J hJ;go_simp;(with_reducible refine hJ _ ?_);clear hJ J;try go_simp)))
   clear cHX lHX
   refine wk_nil (fun u3 hbf=>?_)
   have hy:Below u2.heap.size u2 u3:=belA
   replace HX:=zh (HX.out.later hy)
   replace HP:=zh (HP.out.later hy)
   replace FC:=zh (FC.out.later hy)
   replace FD:=zh (FD.out.later hy)
   replace HB:=zh (Bt HB.out hy)
   clear hy hbf Po
   obtain ⟨wq,EQ⟩:∃ y,y=u3:=⟨_,rfl⟩
   have xq:Hid (∀ j:Nat,j<2→∃ a n c L,(∀ W,(Instr.index 39 (.agg #[.slice ac nc cc,.slice ad nd0 cd]) (.int .i64 (j:Int))).run Tryz.prog W= .ok (.slice a n c) W)∧gH wq 59 (.slice a n c) L∧LitL L):=zh fun j hj=>by
    rw [EQ]
    have:j=0∨j=1:=by omega
    rcases this with rfl|rfl
    ·exact ⟨ac,nc,cc,LC,fun W=>by kernel_rfl,FC.out,LK.out.1⟩
    ·exact ⟨ad,nd0,cd,LD,fun W=>by kernel_rfl,FD.out,LD'.out.1⟩
   have HBQ:=HB
   clear FC FD HB HCU HD
   rw [← EQ] at HP HBQ HX ⊢
   clear EQ
   go_wp2_with fail
   go_loopw [66] (fun iv wr=>∃ k:Nat,iv= .int .i64 (k:Int)∧k≤2∧Below wq.heap.size wq wr) (fun iv _=>2 - (intOf iv).toNat)
   case atStart=>exact ⟨0,rfl,by omega,Below.refl _ _⟩
   case round =>
    obtain ⟨j,rfl,hj,hbi⟩:=hrel
    rcases Nat.lt_or_ge j 2 with hjlt|aQ2
    ·obtain ⟨ax,nx,cx,L,hix,hLx,hLit⟩:=xq.out j hjlt
     have FL:=zh (hLx.later hbi)
     obtain ⟨ea,EA⟩:∃ y,GQ L=y:=⟨_,rfl⟩
     obtain ⟨R,ER⟩:∃ y,orM ea (kE L)=y:=⟨_,rfl⟩
     obtain ⟨nr,EN⟩:∃ y,R.length=y:=⟨_,rfl⟩
     have A1:Hid (∀ v W,gH W 59 v L→Calls Tryz.prog 18 #[v] W (AnyN W nr ea R)):=zh fun v W h=>by
      have:=Diagonal_ok v L _ W h
      rw [EA] at this
      exact this.mono fun _ _ q=>ER ▸ any_of q (by rw [ER];exact EN)
     have A2:Hid (∀ v W,gH W 59 v L→Calls Tryz.prog 19 #[v] W (AnyN W nr ea R)):=zh fun v W h=>by
      have:=aI.Diagonal_any v L _ W h hLit.fits
      rw [EA] at this
      exact this.mono fun _ _ q=>ER ▸ any_of q (by rw [ER];exact EN)
     have HB:=zh hbi
     have hjj:(j:Int)<2:=by omega
     clear hLx hLit hbi EA ER EN
     go_wp2_with fail
     clear hix hjj
     refine (A1.out _ _ FL.out).mono ?_
     rintro e u1 ⟨a8,c8,rfl,h,hm⟩
     replace FL:=zh (FL.out.later h)
     replace HB:=zh (Bt HB.out h)
     clear h
     have FI:=zh hm
     clear hm
     go_wp2_with fail
     refine (A2.out _ _ FL.out).mono ?_
     rintro e u2 ⟨a9,c9,rfl,h,hm⟩
     replace FL:=zh (FL.out.later h)
     replace FI:=zh (FI.out.later h)
     replace HB:=zh (Bt HB.out h)
     clear h
     have FJ:=zh hm
     clear hm
     go_wp2_with fail
     refine (aI.xV _ _ R _ FI.out FJ.out).mono ?_
     rintro e u3 ⟨rfl,h⟩
     replace FL:=zh (FL.out.later h)
     replace FI:=zh (FI.out.later h)
     replace FJ:=zh (FJ.out.later h)
     replace HB:=zh (Bt HB.out h)
     clear h
     go_wp2_with fail
     have hz:=HB.out
     go_roundw
     case rel=>exact ⟨j+1,by go_num,by omega,hz⟩
     case measure=>exact zM
    ·obtain rfl:j=2:=by omega
     replace HP:=zh (HP.out.later hbi)
     replace HX:=zh (HX.out.later hbi)
     have HB:=zh (Bt HBQ.out hbi)
     have cHX:=HX.out.cell
     have lHX:=HX.out.lt
     clear xq HBQ
     go_wp2_with fail
     clear cHX lHX hbi
     refine (HPR.out _ HB.out).mono ?_
     rintro e u1 ⟨vp,rfl,h,hm⟩
     replace HP:=zh (HP.out.later h)
     replace HB:=zh (Bt HB.out h)
     clear h
     have FP:=zh hm
     clear hm
     obtain ⟨wp,EZ⟩:∃ y,y=u1:=⟨_,rfl⟩
     obtain ⟨bp,op,rfl,hbp,hpr⟩:=FP.out.at LL.out
     have HV:=zh hpr
     have HBP:=zh hbp
     have HZ:=HB
     clear HPR LL FP HB hpr hbp HX
     rw [← EZ] at HP HV HBP HZ ⊢
     clear EZ
     go_wp2_with fail
     go_loopw [92] (fun iv wr=>∃ k:Nat,iv= .int .i64 (k:Int)∧k≤4∧Below wp.heap.size wp wr) (fun iv _=>4 - (intOf iv).toNat)
     case atStart=>exact ⟨0,rfl,by omega,Below.refl _ _⟩
     case round =>
      obtain ⟨k,rfl,hk,hb⟩:=hrel
      rcases Nat.lt_or_ge k 4 with hlt|hge
      ·obtain ⟨a,n,ca,a',n',ca',M,N,hh1,hh2,hM,hN,hLM,hLN,hn⟩:=HV.out k hlt
       have hc3:=(hb.cell (p:=⟨bp,op+k*2,none⟩) HBP.out).trans hh1
       have hc4:=(hb.cell (p:=⟨bp,op+k*2+1,none⟩) HBP.out).trans hh2
       have zD:bp<wr.heap.size:=Nat.lt_of_lt_of_le HBP.out hb.size
       have FM:=zh (hM.later hb)
       have FN:=zh (hN.later hb)
       have OW:=zh (fun v W (h:aP W v M)=>own_at h hLM hn.1)
       obtain ⟨em,EI⟩:∃ y,gY M=y:=⟨_,rfl⟩
       obtain ⟨en,EJ⟩:∃ y,gY N=y:=⟨_,rfl⟩
       obtain ⟨R,ER⟩:∃ y,orM em (jf M (M.headD []).length)=y:=⟨_,rfl⟩
       obtain ⟨nr,EN⟩:∃ y,R.length=y:=⟨_,rfl⟩
       obtain ⟨sb,ES⟩:∃ y,decide (M=N)=y:=⟨_,rfl⟩
       have I1:Hid (∀ v W,aP W v M→Calls Tryz.prog 21 #[v] W (AnyN W nr em R)):=zh fun v W h=>by
        have:=Transp_at v M W h
        rw [EI] at this
        exact this.mono fun _ _ q=>ER ▸ any_of q (by rw [ER];exact EN)
       have I2:Hid (∀ v W,aP W v M→Calls Tryz.prog 22 #[v] W (AnyN W nr em R)):=zh fun v W h=>by
        have:=aI.Transpose_any v M W h (little_fits hLM)
        rw [EI] at this
        exact this.mono fun _ _ q=>ER ▸ any_of q (by rw [ER];exact EN)
       have C1:=zh fun v W (h:aP W v M)=>EI ▸ matrix.Check_ok v M W h
       have C2:=zh fun v W (h:aP W v M)=>EI ▸ aI.Check_ok v M W h (little_fits hLM)
       have C3:=zh fun v W (h:aP W v N)=>EJ ▸ matrix.Check_ok v N W h
       have C4:=zh fun v W (h:aP W v N)=>EJ ▸ aI.Check_ok v N W h (little_fits hLN)
       have S1:=zh fun v v' W (h:aP W v M) (h':aP W v' N)=>ES ▸ matrix.Same_any v v' M N W h h'
       have S2:=zh fun v v' W (h:aP W v M) (h':aP W v' N)=>ES ▸ aI.Same_any v v' M N W h h'
       have HB:=zh hb
       have hkk:(k:Int)<4:=by omega
       clear hh1 hh2 hM hN hLM hLN hn hb EI EJ ER EN ES
       go_wp2_with fail
       obtain ⟨wy,EW,hz,HY⟩:=al1 wr #[.slice a n ca,.slice a' n' ca'] 43
       rw [EW]
       replace FM:=zh (FM.out.later hz)
       replace FN:=zh (FN.out.later hz)
       replace HB:=zh (Bt HB.out hz)
       obtain ⟨bq,ebq⟩:∃ y,wr.heap.size=y:=⟨_,rfl⟩
       rw [ebq] at HY ⊢
       have cHY:=HY.out.cell
       have lHY:=HY.out.lt
       clear EW hz hc3 hc4 zD hkk ebq
       go_wp2_with fail
       clear cHY lHY
       refine (I1.out _ _ FM.out).mono ?_
       rintro e u1 ⟨a6,c6,rfl,h,hm⟩
       replace HY:=zh (HY.out.later h)
       replace FM:=zh (FM.out.later h)
       replace FN:=zh (FN.out.later h)
       replace HB:=zh (Bt HB.out h)
       clear h
       have FI:=zh hm
       clear hm
       have cHY:=HY.out.cell
       have lHY:=HY.out.lt
       go_wp2_with fail
       clear cHY lHY
       refine (I2.out _ _ FM.out).mono ?_
       rintro e u2 ⟨a7,c7,rfl,h,hm⟩
       replace HY:=zh (HY.out.later h)
       replace FM:=zh (FM.out.later h)
       replace FN:=zh (FN.out.later h)
       replace FI:=zh (FI.out.later h)
       replace HB:=zh (Bt HB.out h)
       clear h
       have FJ:=zh hm
       clear hm
       go_wp2_with fail
       have Po:=zh (Below.refl u2.heap.size u2)
       refine aD ((.pure,0)::(.read,1)::(.pure,3)::(.read,4)::(.ext,2)::(.ext,5)::(.pure,6)::(.pure,7)::(.pure,8)::(.read,9)::(.pure,11)::(.read,12)::(.ext,10)::(.ext,13)::(.pure,14)::(.pure,15)::(.pure,16)::(.pure,17)::(.read,18)::(.pure,19)::(.read,20)::(.pure,22)::(.read,23)::(.pure,24)::(.read,25)::(.ext,21)::(.ext,26)::(.pure,27)::(.pure,28)::(.pure,29)::(.pure,30)::(.read,31)::(.pure,32)::(.read,33)::(.ext,34)::(.ext,35)::(.pure,36)::(.pure,37)::(.pure,38)::(.pure,39)::(.pure,40)::(.ext,41)::(.pure,42)::(.pure,43)::(.pure,44)::(.pure,45)::(.pure,46)::(.pure,47)::(.pure,48)::[]) zk zk zR zP ?_
       refine Wk.out ?_
       have cHY:=HY.out.cell
       have lHY:=HY.out.lt
       repeat (first|(apply wk_skip;(rfl);(rfl);(rfl);(intro J hJ;go_simp;(with_reducible refine hJ _ ?_);clear hJ J))|(apply wk_len;(rfl);(rfl);(rfl);(rfl);(exact zk);(intro J hJ;go_simp;(with_reducible refine hJ _ ?_);clear hJ J))|(apply wk_pure;(rfl);(rfl);(intro J hJ;go_simp;(with_reducible refine hJ _ ?_);clear hJ J))|(apply wk_load;(rfl);(rfl);(rfl);(rfl);(intro J hJ;go_simp;(with_reducible refine hJ _ ?_);clear hJ J;try go_simp)))
       clear cHY lHY
       refine wk_ext rfl rfl (fun we hbe J hJ=>?_)
       go_simp
       have hx:Below u2.heap.size u2 we:=belA
       have jr:=zh (Bt HB.out hx)
       refine (C1.out _ _ (FM.out.later hx)).mono ?_
       rintro e u3 ⟨rfl,h⟩
       have hy:=Bt hx h
       refine hJ _ _ h ?_
       clear hJ J hbe hx h jr
       replace HY:=zh (HY.out.later hy)
       replace FM:=zh (FM.out.later hy)
       replace FN:=zh (FN.out.later hy)
       replace FI:=zh (FI.out.later hy)
       replace FJ:=zh (FJ.out.later hy)
       replace HB:=zh (Bt HB.out hy)
       replace Po:=zh (Bt Po.out hy)
       clear hy
       have cHY:=HY.out.cell
       have lHY:=HY.out.lt
       repeat (first|(apply wk_skip;(rfl);(rfl);(rfl);(intro J hJ;go_simp;(with_reducible refine hJ _ ?_);clear hJ J))|(apply wk_len;(rfl);(rfl);(rfl);(rfl);(exact zk);(intro J hJ;go_simp;(with_reducible refine hJ _ ?_);clear hJ J))|(apply wk_pure;(rfl);(rfl);(intro J hJ;go_simp;(with_reducible refine hJ _ ?_);clear hJ J))|(apply wk_load;(rfl);(rfl);(rfl);(rfl);(intro J hJ;go_simp;(with_reducible refine hJ _ ?_);clear hJ J;try go_simp)))
       clear cHY lHY
       refine wk_ext rfl rfl (fun we hbe J hJ=>?_)
       go_simp
       have hx:Below u3.heap.size u3 we:=belA
       have jr:=zh (Bt HB.out hx)
       refine (C2.out _ _ (FM.out.later hx)).mono ?_
       rintro e u4 ⟨rfl,h⟩
       have hy:=Bt hx h
       refine hJ _ _ h ?_
       clear hJ J hbe hx h jr
       replace HY:=zh (HY.out.later hy)
       replace FM:=zh (FM.out.later hy)
       replace FN:=zh (FN.out.later hy)
       replace FI:=zh (FI.out.later hy)
       replace FJ:=zh (FJ.out.later hy)
       replace HB:=zh (Bt HB.out hy)
       replace Po:=zh (Bt Po.out hy)
       clear hy
       have cHY:=HY.out.cell
       have lHY:=HY.out.lt
       repeat (first|(apply wk_skip;(rfl);(rfl);(rfl);(intro J hJ;go_simp;(with_reducible refine hJ _ ?_);clear hJ J))|(apply wk_len;(rfl);(rfl);(rfl);(rfl);(exact zk);(intro J hJ;go_simp;(with_reducible refine hJ _ ?_);clear hJ J))|(apply wk_pure;(rfl);(rfl);(intro J hJ;go_simp;(with_reducible refine hJ _ ?_);clear hJ J))|(apply wk_load;(rfl);(rfl);(rfl);(rfl);(intro J hJ;go_simp;(with_reducible refine hJ _ ?_);clear hJ J;try go_simp)))
       clear cHY lHY
       refine wk_ext rfl rfl (fun we hbe J hJ=>?_)
       go_simp
       have hx:Below u4.heap.size u4 we:=belA
       have jr:=zh (Bt HB.out hx)
       refine (C3.out _ _ (FN.out.later hx)).mono ?_
       rintro e u5 ⟨rfl,h⟩
       have hy:=Bt hx h
       refine hJ _ _ h ?_
       clear hJ J hbe hx h jr
       replace HY:=zh (HY.out.later hy)
       replace FM:=zh (FM.out.later hy)
       replace FN:=zh (FN.out.later hy)
       replace FI:=zh (FI.out.later hy)
       replace FJ:=zh (FJ.out.later hy)
       replace HB:=zh (Bt HB.out hy)
       replace Po:=zh (Bt Po.out hy)
       clear hy
       have cHY:=HY.out.cell
       have lHY:=HY.out.lt
       repeat (first|(apply wk_skip;(rfl);(rfl);(rfl);(intro J hJ;go_simp;(with_reducible refine hJ _ ?_);clear hJ J))|(apply wk_len;(rfl);(rfl);(rfl);(rfl);(exact zk);(intro J hJ;go_simp;(with_reducible refine hJ _ ?_);clear hJ J))|(apply wk_pure;(rfl);(rfl);(intro J hJ;go_simp;(with_reducible refine hJ _ ?_);clear hJ J))|(apply wk_load;(rfl);(rfl);(rfl);(rfl);(intro J hJ;go_simp;(with_reducible refine hJ _ ?_);clear hJ J;try go_simp)))
       clear cHY lHY
       refine wk_ext rfl rfl (fun we hbe J hJ=>?_)
       go_simp
       have hx:Below u5.heap.size u5 we:=belA
       have jr:=zh (Bt HB.out hx)
       refine (C4.out _ _ (FN.out.later hx)).mono ?_
       rintro e u6 ⟨rfl,h⟩
       have hy:=Bt hx h
       refine hJ _ _ h ?_
       clear hJ J hbe hx h jr
       replace HY:=zh (HY.out.later hy)
       replace FM:=zh (FM.out.later hy)
       replace FN:=zh (FN.out.later hy)
       replace FI:=zh (FI.out.later hy)
       replace FJ:=zh (FJ.out.later hy)
       replace HB:=zh (Bt HB.out hy)
       replace Po:=zh (Bt Po.out hy)
       clear hy
       have cHY:=HY.out.cell
       have lHY:=HY.out.lt
       repeat (first|(apply wk_skip;(rfl);(rfl);(rfl);(intro J hJ;go_simp;(with_reducible refine hJ _ ?_);clear hJ J))|(apply wk_len;(rfl);(rfl);(rfl);(rfl);(exact zk);(intro J hJ;go_simp;(with_reducible refine hJ _ ?_);clear hJ J))|(apply wk_pure;(rfl);(rfl);(intro J hJ;go_simp;(with_reducible refine hJ _ ?_);clear hJ J))|(apply wk_load;(rfl);(rfl);(rfl);(rfl);(intro J hJ;go_simp;(with_reducible refine hJ _ ?_);clear hJ J;try go_simp)))
       clear cHY lHY
       refine wk_ext rfl rfl (fun we hbe J hJ=>?_)
       go_simp
       have hx:Below u6.heap.size u6 we:=belA
       have jr:=zh (Bt HB.out hx)
       refine (S1.out _ _ _ (FM.out.later hx) (FN.out.later hx)).mono ?_
       rintro e u7 ⟨rfl,h⟩
       have hy:=Bt hx h
       refine hJ _ _ h ?_
       clear hJ J hbe hx h jr
       replace HY:=zh (HY.out.later hy)
       replace FM:=zh (FM.out.later hy)
       replace FN:=zh (FN.out.later hy)
       replace FI:=zh (FI.out.later hy)
       replace FJ:=zh (FJ.out.later hy)
       replace HB:=zh (Bt HB.out hy)
       replace Po:=zh (Bt Po.out hy)
       clear hy
       have cHY:=HY.out.cell
       have lHY:=HY.out.lt
       repeat (first|(apply wk_skip;(rfl);(rfl);(rfl);(intro J hJ;go_simp;(with_reducible refine hJ _ ?_);clear hJ J))|(apply wk_len;(rfl);(rfl);(rfl);(rfl);(exact zk);(intro J hJ;go_simp;(with_reducible refine hJ _ ?_);clear hJ J))|(apply wk_pure;(rfl);(rfl);(intro J hJ;go_simp;(with_reducible refine hJ _ ?_);clear hJ J))|(apply wk_load;(rfl);(rfl);(rfl);(rfl);(intro J hJ;go_simp;(with_reducible refine hJ _ ?_);clear hJ J;try go_simp)))
       clear cHY lHY
       refine wk_ext rfl rfl (fun we hbe J hJ=>?_)
       go_simp
       have hx:Below u7.heap.size u7 we:=belA
       have jr:=zh (Bt HB.out hx)
       refine (S2.out _ _ _ (FM.out.later hx) (FN.out.later hx)).mono ?_
       rintro e u8 ⟨rfl,h⟩
       have hy:=Bt hx h
       refine hJ _ _ h ?_
       clear hJ J hbe hx h jr
       replace HY:=zh (HY.out.later hy)
       replace FM:=zh (FM.out.later hy)
       replace FN:=zh (FN.out.later hy)
       replace FI:=zh (FI.out.later hy)
       replace FJ:=zh (FJ.out.later hy)
       replace HB:=zh (Bt HB.out hy)
       replace Po:=zh (Bt Po.out hy)
       clear hy
       have cHY:=HY.out.cell
       have lHY:=HY.out.lt
       repeat (first|(apply wk_skip;(rfl);(rfl);(rfl);(intro J hJ;go_simp;(with_reducible refine hJ _ ?_);clear hJ J))|(apply wk_len;(rfl);(rfl);(rfl);(rfl);(exact zk);(intro J hJ;go_simp;(with_reducible refine hJ _ ?_);clear hJ J))|(apply wk_pure;(rfl);(rfl);(intro J hJ;go_simp;(with_reducible refine hJ _ ?_);clear hJ J))|(apply wk_load;(rfl);(rfl);(rfl);(rfl);(intro J hJ;go_simp;(with_reducible refine hJ _ ?_);clear hJ J;try go_simp)))
       clear cHY lHY
       refine wk_ext rfl rfl (fun we hbe J hJ=>?_)
       go_simp
       have hx:Below u8.heap.size u8 we:=belA
       have jr:=zh (Bt HB.out hx)
       refine (OW.out _ _ (FM.out.later hx)).mono ?_
       rintro e u9 ⟨aa,da,rfl,h,hm⟩
       have hy:=Bt hx h
       refine hJ _ _ h ?_
       clear hJ J hbe hx h jr
       replace HY:=zh (HY.out.later hy)
       replace FM:=zh (FM.out.later hy)
       replace FN:=zh (FN.out.later hy)
       replace FI:=zh (FI.out.later hy)
       replace FJ:=zh (FJ.out.later hy)
       replace HB:=zh (Bt HB.out hy)
       replace Po:=zh (Bt Po.out hy)
       clear hy
       have FO:=zh hm
       clear hm
       have cHY:=HY.out.cell
       have lHY:=HY.out.lt
       repeat (first|(apply wk_skip;(rfl);(rfl);(rfl);(intro J hJ;go_simp;(with_reducible refine hJ _ ?_);clear hJ J))|(apply wk_len;(rfl);(rfl);(rfl);(rfl);(exact zk);(intro J hJ;go_simp;(with_reducible refine hJ _ ?_);clear hJ J))|(apply wk_pure;(rfl);(rfl);(intro J hJ;go_simp;(with_reducible refine hJ _ ?_);clear hJ J))|(apply wk_load;(rfl);(rfl);(rfl);(rfl);(intro J hJ;go_simp;(with_reducible refine hJ _ ?_);clear hJ J;try go_simp)))
       clear cHY lHY
       refine wk_ext rfl rfl (fun we hbe J hJ=>?_)
       go_simp
       have hx:Below u9.heap.size u9 we:=belA
       have jr:=zh (Bt HB.out hx)
       refine (matrix.xV _ _ M _ (FM.out.later hx) (FO.out.later hx)).mono ?_
       rintro e u10 ⟨rfl,h⟩
       have hy:=Bt hx h
       refine hJ _ _ h ?_
       clear hJ J hbe hx h jr
       replace HY:=zh (HY.out.later hy)
       replace FM:=zh (FM.out.later hy)
       replace FN:=zh (FN.out.later hy)
       replace FI:=zh (FI.out.later hy)
       replace FJ:=zh (FJ.out.later hy)
       replace FO:=zh (FO.out.later hy)
       replace HB:=zh (Bt HB.out hy)
       replace Po:=zh (Bt Po.out hy)
       clear hy
       have cHY:=HY.out.cell
       have lHY:=HY.out.lt
       repeat (first|(apply wk_skip;(rfl);(rfl);(rfl);(intro J hJ;go_simp;(with_reducible refine hJ _ ?_);clear hJ J))|(apply wk_len;(rfl);(rfl);(rfl);(rfl);(exact zk);(intro J hJ;go_simp;(with_reducible refine hJ _ ?_);clear hJ J))|(apply wk_pure;(rfl);(rfl);(intro J hJ;go_simp;(with_reducible refine hJ _ ?_);clear hJ J))|(apply wk_load;(rfl);(rfl);(rfl);(rfl);(intro J hJ;go_simp;(with_reducible refine hJ _ ?_);clear hJ J;try go_simp)))
       clear cHY lHY
       refine wk_ext rfl rfl (fun we hbe J hJ=>?_)
       go_simp
       have hx:Below u10.heap.size u10 we:=belA
       have jr:=zh (Bt HB.out hx)
       refine (aI.xV _ _ R _ (FI.out.later hx) (FJ.out.later hx)).mono ?_
       rintro e u11 ⟨rfl,h⟩
       have hy:=Bt hx h
       refine hJ _ _ h ?_
       clear hJ J hbe hx h jr
       replace HY:=zh (HY.out.later hy)
       replace FM:=zh (FM.out.later hy)
       replace FN:=zh (FN.out.later hy)
       replace FI:=zh (FI.out.later hy)
       replace FJ:=zh (FJ.out.later hy)
       replace FO:=zh (FO.out.later hy)
       replace HB:=zh (Bt HB.out hy)
       replace Po:=zh (Bt Po.out hy)
       clear hy
       have cHY:=HY.out.cell
       have lHY:=HY.out.lt
       repeat (first|(apply wk_skip;(rfl);(rfl);(rfl);(intro J hJ;go_simp;(with_reducible refine hJ _ ?_);clear hJ J))|(apply wk_len;(rfl);(rfl);(rfl);(rfl);(exact zk);(intro J hJ;go_simp;(with_reducible refine hJ _ ?_);clear hJ J))|(apply wk_pure;(rfl);(rfl);(intro J hJ;go_simp;(with_reducible refine hJ _ ?_);clear hJ J))|(apply wk_load;(rfl);(rfl);(rfl);(rfl);(intro J hJ;go_simp;(with_reducible refine hJ _ ?_);clear hJ J;try go_simp)))
       clear cHY lHY
       refine wk_nil (fun u12 hbf=>?_)
       have hy:Below u11.heap.size u11 u12:=belA
       replace HY:=zh (HY.out.later hy)
       replace FM:=zh (FM.out.later hy)
       replace FN:=zh (FN.out.later hy)
       replace FI:=zh (FI.out.later hy)
       replace FJ:=zh (FJ.out.later hy)
       replace FO:=zh (FO.out.later hy)
       replace HB:=zh (Bt HB.out hy)
       clear hy hbf Po
       go_wp2_with fail
       have hz:=HB.out
       go_roundw
       case rel=>exact ⟨k+1,by go_num,by omega,hz⟩
       case measure=>exact zM
      ·obtain rfl:k=4:=by omega
       go_wp2_with fail
       go_ret
       exact ⟨rfl,Bt HZ.out hb⟩
theorem shapes_ok (r c r1 c1 n0:Int) (A B v v1 vl:Value) (mA mB:List (List Fr)) (l:List Fr) (w:World) (hr:0≤r∧r≤255) (hc:0≤c∧c≤255) (hr1:0≤r1∧r1≤255) (hc1:0≤c1∧c1≤255) (ht:qP.Pow w) (he:whole.Er w) (hA:MaR w A mA) (hB:MaR w B mB) (hv:jw w v) (hv1:jw w v1) (hl:FrR w vl l) :
  Calls Tryz.prog 3 #[.agg #[A,B,.int .u8 r,.int .u8 c,v,.int .u8 r1,.int .u8 c1,v1],.int .i64 n0,vl] w (fun e w'=>e= .returned (.bool true)∧Below w.heap.size w w'):=by
 obtain ⟨M1,M2,M4,M5,⟨l1,l2,l4,l5⟩,hp⟩:=pairs_ok r c r1 c1 A B v v1 mA mB w hr hc hr1 hc1 hA hB hv hv1
 have hz:0≤IntKind.u64.wrap n0:=by unfold IntKind.wrap;simp [IntKind.bits,IntKind.signed];omega
 obtain ⟨z0,hz0⟩:∃ z,IntKind.u64.wrap n0=z:=⟨_,rfl⟩
 rw [hz0] at hz
 obtain ⟨nd0,hd0,hd5⟩:∃ n:Nat,z0.tmod 6=(n:Int)∧n≤5:=by
  rw [Int.tmod_eq_emod_of_nonneg hz]
  exact ⟨(z0%6).toNat,by omega,by omega⟩
 obtain ⟨LD,hLD,gLD⟩:=list_giv (r:=r) (c:=c) hv nd0 hd5
 obtain ⟨gc,lc⟩:=cut_giv hl
 have el:∃ a n c,vl= .slice a n c:=by obtain ⟨a,cap,h, -⟩:=hl;exact ⟨a,_,cap,h⟩
 refine shapes_main r c r1 c1 n0 z0 A B v v1 vl (pE mA) (pE mB) M1 M2 M4 M5 _ nd0 (capL l) LD w hz0 hd0 hd5 ht he (maR_sl hA) (maR_sl hB) hv hv1 el ?_ (zh hp) (zh gc) ⟨lc,rfl⟩ (zh gLD) hLD
 intro M hM
 simp only [List.mem_cons,List.not_mem_nil,or_false] at hM
 rcases hM with rfl|rfl|rfl|rfl|rfl|rfl
 ·exact own_little mA
 ·exact own_little mB
 ·exact l1
 ·exact l2
 ·exact l4
 ·exact l5
end Go.Proofs.verdigrislaw05
namespace Go.Proofs.YtfhappbmgghgdaaGreatDoor
open Go Go.ChangeShapes Go.WideShapes Go.RowKit Go.Proofs Go.Proofs.verdigrislaw05 Go.dF
theorem open_frs {H:Type} {enc:TypeId × Value→H} {W:World} {b0 base:Nat} {sp:Nat→Bool} {held:Bool} {v:Value} {d:DataW H} {p:List MemPlace}
  (hval:Value.okWide Tryz.prog W .any b0 29 v) (h:DataW.Trod enc Tryz.prog W base sp held 29 v d p):∃ l,FrR W v l:=by
 obtain ⟨a0,n0,cap0,rfl⟩:=okWide_slice Tryz.underlying29 hval
 obtain ⟨fuel,hf⟩:=h
 obtain ⟨a,n,cap,l,e,h1⟩:=trod_frs hf
 replace e:[Value.slice a0 n0 cap0]=[.slice a n cap]:=e
 simp only [List.cons.injEq,and_true] at e
 rw [e]
 exact ⟨l,h1⟩
end Go.Proofs.YtfhappbmgghgdaaGreatDoor
