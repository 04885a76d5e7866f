/- Lemmas for the proof. No condition. -/
import Derived.Test.YtfhappbmgghgdaaGreatDoorH01
set_option linter.unusedVariables false
set_option linter.unusedSimpArgs false
set_option maxRecDepth 100000
set_option maxHeartbeats 16000000
namespace Go.Proofs.aI
open Go Go.RowKit Go.SW Go.Num Go.Mem Go.Proofs Go.Dec Go.dF Go.Proofs.aL Go.Proofs.matrix
def minT (f:RM→Rat) (m:RM) (j:Nat):Rat:=if j%2=1 then -((m.getD 0 []).getD j 0*f (withoutQ m 0 j)) else (m.getD 0 []).getD j 0*f (withoutQ m 0 j)
def minorF:Nat→RM→Rat
 | 0,_=>1
 | n+1,m=>qw (minT (minorF n) m) (n+1)
def MB:Nat→Nat
 | 0=>67
 | n+1=>(2*MB n+1)*2^(n+1)
theorem MB_ge:∀ n,67≤MB n
 | 0=>Nat.le_refl _
 | n+1=>by
  have h1:=MB_ge n
  have h2:1≤2^(n+1):=Nat.one_le_two_pow
  have:=Nat.mul_le_mul (show 67≤2*MB n+1 by omega) h2
  show 67≤(2*MB n+1)*2^(n+1)
  omega
theorem MB_le {n:Nat} (h:n≤4):MB n≤1200000:=by
 have hc:n=0∨n=1∨n=2∨n=3∨n=4:=by omega
 rcases hc with rfl|rfl|rfl|rfl|rfl<;>decide
theorem psum_szP {P:Nat} {f:Nat→Rat} (h0:1≤P):∀ k,(∀ i,i<k→qW P (f i))→qW ((P+1)*2^k - 1) (qw f k)
 | 0,_=>by
  show qW _ 0
  refine qW.mono (k:=1) ⟨by decide+kernel,by decide+kernel⟩ ?_
  rw [Nat.pow_zero];omega
 | k+1,h=>by
  have hp:1≤2^k:=Nat.one_le_two_pow
  have h2:=Nat.mul_le_mul_left (P+1) hp
  have:=Ck (psum_szP h0 k fun i hi=>h i zo) ((h k zo).mono (show P≤(P+1)*2^k - 1 by omega))
  exact this.mono (by rw [Nat.pow_succ,← Nat.mul_assoc];omega)
theorem withoutQ_rows {m:RM} {n i j:Nat} (hr:∀ r∈m,r.length=n+1∧∀ q∈r,qW 67 q) (hi:i<m.length) (hm:m.length=n+1) (hj:j<n+1):(withoutQ m i j).length=n∧∀ r∈withoutQ m i j,r.length=n∧∀ q∈r,qW 67 q:=by
 refine ⟨?_,fun r h=>?_⟩
 ·rw [← cutM_end hi,cutM_len (Nat.le_refl _),if_neg zo];omega
 ·unfold withoutQ at h
  obtain ⟨s,hs,rfl⟩:=List.mem_map.1 h
  have hs':s∈m:=by
   rcases List.mem_append.1 hs with h|h
   ·exact List.mem_of_mem_take h
   ·exact List.mem_of_mem_drop h
  refine ⟨by have:=cutR_len (hr s hs').1 hj;omega,fun q hq=>?_⟩
  unfold cutR at hq
  rcases List.mem_append.1 hq with h|h
  ·exact (hr s hs').2 q (List.mem_of_mem_take h)
  ·exact (hr s hs').2 q (List.mem_of_mem_drop h)
theorem at_sz {l:List Rat} (h:∀ q∈l,qW 67 q) (j:Nat):qW 67 (l.getD j 0):=by
 rw [List.getD_eq_getElem?_getD]
 rcases Nat.lt_or_ge j l.length with hi|hi
 ·rw [List.getElem?_eq_getElem hi];exact h _ (List.getElem_mem hi)
 ·rw [List.getElem?_eq_none hi];exact ⟨by decide+kernel,by decide+kernel⟩
theorem minT_sz {n:Nat} {m:RM} {f:RM→Rat} (hr:∀ r∈m,r.length=n+1∧∀ q∈r,qW 67 q) (hm:m.length=n+1) (hf:∀ j,j<n+1→qW (MB n) (f (withoutQ m 0 j))) (j:Nat) (hj:j<n+1) :
  qW (2*MB n) ((m.getD 0 []).getD j 0*f (withoutQ m 0 j))∧qW (2*MB n) (minT f m j):=by
 have h0:qW 67 ((m.getD 0 []).getD j 0):=by
  refine at_sz (fun q hq=>?_) j
  have e:m.getD 0 []=m[0]'zo:=by simp [hm]
  rw [e] at hq
  exact (hr _ (List.getElem_mem _)).2 q hq
 have h1:=VT (h0.mono (MB_ge n)) (hf j hj)
 refine ⟨h1,?_⟩
 unfold minT
 split
 ·exact VR h1
 ·exact h1
theorem minorF_sz:∀ (n:Nat) (m:RM),m.length=n→(∀ r∈m,r.length=n∧∀ q∈r,qW 67 q)→qW (MB n) (minorF n m)
 | 0,_,_,_=>by
  show qW 67 1
  exact ⟨by decide+kernel,by decide+kernel⟩
 | n+1,m,hm,hr=>by
  have h:∀ j,j<n+1→qW (2*MB n) (minT (minorF n) m j):=fun j hj=>(minT_sz hr hm (fun j hj=>minorF_sz n _ (withoutQ_rows hr zo hm hj).1 (withoutQ_rows hr zo hm hj).2) j hj).2
  have:=psum_szP (P:=2*MB n) (by have:=MB_ge n;omega) (n+1) h
  exact this.mono (by show _≤(2*MB n+1)*2^(n+1);omega)
theorem Quick1 (W:World):Calls Tryz.prog 127 #[.int .i64 1,.int .i64 1] W (pz W 1):=by
 have:=UW 1 1 zo zo zo zo zo W
 rwa [show ((1:Int):Rat) / ((1:Int):Rat)=1 by decide+kernel] at this
theorem Minors_zero (v:Value) (w:World) (h:Dw w v []):Calls Tryz.prog 76 #[v] w (pz w 1):=by
 obtain ⟨a,cap,rfl, -⟩:=Dw.at h
 clear h
 go_enter Tryz.func76,Tryz.ntmps76
 go_wp2_with fail
 have hx:=ah.new w #[.bool false,.slice none 0 0,.bool false,.slice none 0 0] 123
 have hb0:Below w.heap.size w (w.alloc (.cells #[.bool false,.slice none 0 0,.bool false,.slice none 0 0] 123)):=belA
 refine (Quick1 _).mono ?_
 rintro e w1 ⟨v,rfl,hb1,hra⟩
 obtain ⟨bn,pn,ln,cn,bd,pd,ld,cd,rfl, -, -⟩:=id hra
 have X:=hx.later hb1
 have IC:=zh hra
 have cx:=X.cell
 have lx:=X.lt
 have fx:=X.free
 have HX:=zh X
 have HB:=zh (Bt hb0 hb1)
 have hw:w.heap.size≤w.heap.size:=Nat.le_refl _
 clear hx hb0 hb1 hra X
 go_wp2_with fail
 have Y4:=(((HX.out.set 0 (.bool bn)).set 1 (.slice pn ln cn)).set 2 (.bool bd)).set 3 (.slice pd ld cd)
 refine dO rfl rfl Y4 Tryz.underlying123 rfl zk ?_
 exact ⟨_,rfl,(((HB.out.setCell hw _).setCell hw _).setCell hw _).setCell hw _,Ra.sI IC.out HX.out zd _ _ _ _⟩
theorem Minors_succ (n:Nat) (n4:n+1≤4) (ih:∀ (v:Value) (m:RM) (w:World),Dw w v m→m.length=n→(∀ r∈m,r.length=n∧∀ q∈r,qW 67 q)→Calls Tryz.prog 76 #[v] w (pz w (minorF n m)))
  (v:Value) (m:RM) (w:World) (h:Dw w v m) (hm:m.length=n+1) (hr:∀ r∈m,r.length=n+1∧∀ q∈r,qW 67 q):Calls Tryz.prog 76 #[v] w (pz w (minorF (n+1) m)):=by
 have hrl:∀ r∈m,r.length=n+1:=fun r h=>(hr r h).1
 have hmn:∀ j,j<n+1→qW (MB n) (minorF n (withoutQ m 0 j)):=fun j hj=>minorF_sz n _ (withoutQ_rows hr zo hm hj).1 (withoutQ_rows hr zo hm hj).2
 have hlim:MB n≤1200000:=MB_le zo
 have WO:Hid (∀ j,j<n+1→∀ W,Below w.heap.size w W→Calls Tryz.prog 81 #[v,.int .i64 0,.int .i64 (j:Int)] W (Yl W (withoutQ m 0 j))):=zh fun j hj W hW=>by
  have:=without_ok v m (n+1) 0 j W (h.later hW) hrl zo hj zo zo
  simpa using this
 have MI:Hid (∀ j,j<n+1→∀ x W,Dw W x (withoutQ m 0 j)→Calls Tryz.prog 76 #[x] W (pz W (minorF n (withoutQ m 0 j)))):=zh fun j hj x W hx=>ih x _ W hx (withoutQ_rows hr zo hm hj).1 (withoutQ_rows hr zo hm hj).2
 have TI:Hid (∀ j,j<n+1→∀ x y W,Ra W x ((m.getD 0 []).getD j 0)→Ra W y (minorF n (withoutQ m 0 j))→Calls Tryz.prog 129 #[x,y] W (pz W ((m.getD 0 []).getD j 0*minorF n (withoutQ m 0 j)))):=zh fun j hj x y W hx hy=>mI x y _ _ W hx hy (by
  refine (at_sz (fun q hq=>?_) j).mono zo
  have e:m.getD 0 []=m[0]'zo:=by simp [hm]
  rw [e] at hq
  exact (hr _ (List.getElem_mem _)).2 q hq) ((hmn j hj).mono zo)
 have hT:∀ j,j<n+1→qW (2*MB n) (minT (minorF n) m j):=fun j hj=>(minT_sz hr hm hmn j hj).2
 have PL:Hid (∀ k,k<n+1→∀ x y W,Ra W x (qw (minT (minorF n) m) k)→Ra W y (minT (minorF n) m k)→Calls Tryz.prog 128 #[x,y] W (pz W (qw (minT (minorF n) m) (k+1)))):=zh fun k hk x y W hx hy=>xW x y _ _ W hx hy ((psum_szP (P:=2*MB n) (by have:=MB_ge n;omega) k fun i hi=>hT i zo).mono (by
  have h1:2^k≤2^4:=Nat.pow_le_pow_right zo zo
  have h2:=Nat.mul_le_mul (show 2*MB n+1≤2400001 by omega) h1
  omega)) ((hT k hk).mono zo)
 have hodd:∀ j,j%2=1→minT (minorF n) m j= -((m.getD 0 []).getD j 0*minorF n (withoutQ m 0 j)):=fun j hj=>by unfold minT;rw [if_pos hj]
 have heven:∀ j,j%2≠1→minT (minorF n) m j=(m.getD 0 []).getD j 0*minorF n (withoutQ m 0 j):=fun j hj=>by unfold minT;rw [if_neg hj]
 have HO:=zh hodd
 have HE:=zh heven
 obtain ⟨bx,ox,cx,rfl,lx,hat⟩:=Dw.get h hrl zo
 obtain ⟨a0,c0,x0,hx0⟩:=hat 0 zo
 rw [Nat.add_zero] at x0
 have e0:m.getD 0 []=m[0]'zo:=by simp [hm]
 rw [e0] at TI HO HE
 have hl0:=hrl _ (List.getElem_mem (show 0<m.length by omega))
 obtain ⟨ay,cy,ey, -, -, hat0⟩:=xH.at hx0
 simp only [Value.slice.injEq] at ey
 obtain ⟨rfl, -, rfl⟩:=ey
 have H0:Hid (∀ k (_:k<n+1),∃ b off bn pn ln cn bd pd ld cd,a0=some ⟨b,off,none⟩∧b<w.heap.size∧w.cell? ⟨b,off+k*4,none⟩=some (.bool bn)∧w.cell? ⟨b,off+k*4+1,none⟩=some (.slice pn ln cn)∧w.cell? ⟨b,off+k*4+2,none⟩=some (.bool bd)∧w.cell? ⟨b,off+k*4+3,none⟩=some (.slice pd ld cd) ∧
   Ra w (.agg #[.bool bn,.slice pn ln cn,.bool bd,.slice pd ld cd]) ((m[0]'zo).getD k 0)):=zh fun k hk=>by
  have:=hat0 k zo
  rw [show (m[0]'zo)[k]'zo=(m[0]'zo).getD k 0 by simp [hl0,hk]] at this
  exact this
 show Calls _ _ _ _ (pz w (qw (minT (minorF n) m) (n+1)))
 clear hat0 hx0 hat e0 hr hrl hmn hT hodd heven h ih hlim
 generalize minT (minorF n) m=F at *
 obtain ⟨X0,EX0⟩:∃ X0:Nat→Rat,Hid ((fun j=>(m[0]'zo).getD j 0)=X0):=⟨_,zh rfl⟩
 have ex:∀ j,(m[0]'zo).getD j 0=X0 j:=fun j=>by rw [← EX0.out]
 obtain ⟨MN,EMN⟩:∃ MN:Nat→Rat,Hid ((fun j=>minorF n (withoutQ m 0 j))=MN):=⟨_,zh rfl⟩
 have em:∀ j,minorF n (withoutQ m 0 j)=MN j:=fun j=>by rw [← EMN.out]
 simp only [ex,em] at TI HO HE H0 MI
 clear ex em EX0 EMN hl0
 generalize m.length=l at *
 subst hm
 have h0n:0<n+1:=by omega
 go_enter Tryz.func76,Tryz.ntmps76
 go_wp2_with fail
 obtain ⟨w0,E0⟩:∃ y,w.alloc (.cells #[.bool false,.slice none 0 0,.bool false,.slice none 0 0] 123)=y:=⟨_,rfl⟩
 have hb0:Below w.heap.size w w0:=by rw [← E0];exact belA
 have X4:Hid (ah w0 w.heap.size #[.bool false,.slice none 0 0,.bool false,.slice none 0 0] 123):=zh (by rw [← E0];exact ah.new _ _ _)
 rw [E0]
 clear E0
 refine (Quick0 _).mono ?_
 rintro e w1 ⟨v,rfl,hb1,hra⟩
 obtain ⟨bn,pn,ln,cn,bd,pd,ld,cd,rfl, -, -⟩:=id hra
 replace X4:=X4.bl hb1
 have HB1:=zh (Bt hb0 hb1)
 obtain ⟨p4,E4⟩:∃ y,w.heap.size=y:=⟨_,rfl⟩
 have h44:w.heap.size≤p4:=by omega
 rw [E4] at X4 ⊢
 clear E4
 have hne:=X4.out.lt
 go_wp2_with fail
 have h12:Below w1.heap.size w1 (w1.alloc (.cells #[.bool bn,.slice pn ln cn,.bool bd,.slice pd ld cd] 123)):=belA
 have hx5:=ah.new w1 #[.bool bn,.slice pn ln cn,.bool bd,.slice pd ld cd] 123
 obtain ⟨w2,E2⟩:∃ y,w1.alloc (.cells #[.bool bn,.slice pn ln cn,.bool bd,.slice pd ld cd] 123)=y:=⟨_,rfl⟩
 rw [E2] at h12 hx5 ⊢
 replace X4:=X4.bl h12
 have IC:=zh (hra.later h12)
 have HB2:Hid (Below w.heap.size w w2):=zh (Bt HB1.out h12)
 have h05:=HB1.out.size
 obtain ⟨p5,E5⟩:∃ y,w1.heap.size=y:=⟨_,rfl⟩
 rw [E5] at hx5 hne h05 ⊢
 have X5:=zh hx5
 clear E2 E5 hx5 h12 hb1 hra HB1 hb0
 go_loopw [4] (fun iv wr=>∃ (k:Nat) (bn:Bool) (pn:Option Addr) (ln cn:Nat) (bd:Bool) (pd:Option Addr) (ld cd:Nat),iv= .int .i64 (k:Int)∧k≤n+1∧Hid (ah wr p5 #[.bool bn,.slice pn ln cn,.bool bd,.slice pd ld cd] 123)∧Hid (ah wr p4 #[.bool false,.slice none 0 0,.bool false,.slice none 0 0] 123)∧Hid (Ra wr (.agg #[.bool bn,.slice pn ln cn,.bool bd,.slice pd ld cd]) (qw F k))∧Hid (Below w.heap.size w wr)) (fun iv _=>n+1 - (intOf iv).toNat)
 case atStart=>exact ⟨0,_,_,_,_,_,_,_,_,rfl,by omega,X5,X4,IC,HB2⟩
 case round =>
  obtain ⟨k,bn,pn,ln,cn,bd,pd,ld,cd,rfl,hk,X5,X4,IC,hb⟩:=hrel
  have c5:=X5.out.cell
  have l5:=X5.out.lt
  rcases Nat.lt_or_ge k (n+1) with hlt|hge
  ·obtain ⟨b,off,s1,s2,s3,s4,s5,s6,s7,s8,rfl,hbl,y0,y1,y2,y3,r1⟩:=H0.out k hlt
   replace y0:=(hb.out.cell (p:=⟨b,off+k*4,none⟩) hbl).trans y0
   replace y1:=(hb.out.cell (p:=⟨b,off+k*4+1,none⟩) hbl).trans y1
   replace y2:=(hb.out.cell (p:=⟨b,off+k*4+2,none⟩) hbl).trans y2
   replace y3:=(hb.out.cell (p:=⟨b,off+k*4+3,none⟩) hbl).trans y3
   have z0:=(hb.out.cell (p:=⟨bx,ox,none⟩) lx).trans x0
   have R1:=zh (r1.later hb.out)
   have b1:b<wr.heap.size:=Nat.lt_of_lt_of_le hbl hb.out.size
   have b2:bx<wr.heap.size:=Nat.lt_of_lt_of_le lx hb.out.size
   clear r1 hbl
   go_wp2_with fail
   refine aD [(.pure,0),(.pure,1),(.read,2),(.pure,3),(.pure,4),(.read,5),(.pure,6),(.pure,7),(.ext,8),(.ext,9),(.ext,10),(.alloc #[.bool false,.slice none 0 0,.bool false,.slice none 0 0] 123,11),(.fin,12)] zk zk zR zP ?_;refine Wk.out ?_;(iterate 8 (first|(apply wk_skip;(rfl);(rfl);(rfl);(intro J hJ;go_simp;(with_reducible refine hJ _ ?_);clear hJ J))|(apply wk_len;(rfl);(rfl);(rfl);(rfl);(exact zk);(intro J hJ;go_simp;(with_reducible refine hJ _ ?_);clear hJ J))|(apply wk_pure;(rfl);(rfl);(intro J hJ;go_simp;(with_reducible refine hJ _ ?_);clear hJ J))|(apply wk_load;(rfl);(rfl);(rfl);(rfl);(intro J hJ;go_simp;(with_reducible refine hJ _ ?_);clear hJ J;try go_simp))))
   refine wk_ext rfl rfl (fun wa hba J hJ=>?_);go_simp
   have z1:Below wr.heap.size wr wa:=belA
   refine (WO.out k hlt _ (Bt hb.out z1)).mono ?_
   rintro e wb ⟨v,rfl,hbb,hmw⟩
   obtain ⟨qa,qc,rfl⟩:=SlV.slice hmw
   have HM:=zh hmw
   have z2:=Bt z1 hbb
   refine hJ _ _ hbb ?_
   clear hJ J hmw hba hbb
   refine wk_ext rfl rfl (fun wc hbc J hJ=>?_);go_simp
   have z3:Below wb.heap.size wb wc:=belA
   refine (MI.out k hlt _ _ (HM.out.later z3)).mono ?_
   rintro e wd ⟨v,rfl,hbd,hrt⟩
   obtain ⟨u1,u2,u3,u4,u5,u6,u7,u8,rfl, -, -⟩:=id hrt
   have HT:=zh hrt
   have z4:=Bt (Bt z2 z3) hbd
   refine hJ _ _ hbd ?_
   clear hJ J hrt hbc hbd z1 z2 z3 HM
   refine wk_ext rfl rfl (fun we hbe J hJ=>?_);go_simp
   have z5:Below wd.heap.size wd we:=belA
   have z6:=Bt z4 z5
   refine (TI.out k hlt _ _ _ (R1.out.later z6) (HT.out.later z5)).mono ?_
   rintro e wf ⟨v,rfl,hbf,hrs⟩
   obtain ⟨v1,v2,v3,v4,v5,v6,v7,v8,rfl, -, -⟩:=id hrs
   have HS:=zh hrs
   have z7:=Bt z6 hbf
   refine hJ _ _ hbf ?_
   clear hJ J hrs hbe hbf z4 z5 z6 HT
   refine wk_alloc rfl (fun q wg hbg hq1 hq2 hq3 PU=>?_);go_simp
   replace PU:ah wg q #[.bool false,.slice none 0 0,.bool false,.slice none 0 0] 123:=PU
   refine wk_fin [_] rfl (fun wh hbh=>?_)
   have z8:=Bt (Bt z7 hbg) hbh
   have Y9:=PU.later hbh
   have c9:=Y9.cell
   have l9:=Y9.lt
   have f9:=Y9.free
   have g5:=X5.out.later z8
   have g4:=X4.out.later z8
   have l4:=X4.out.lt
   have hn5:p5≠q:=by omega
   have hn4:p4≠q:=by omega
   have HS9:=zh (Ra.sI ((HS.out.later hbg).later hbh) Y9 zd (.bool v1) (.slice v2 v3 v4) (.bool v5) (.slice v6 v7 v8))
   have HR9:=zh (Ra.sI (IC.out.later z8) Y9 zd (.bool v1) (.slice v2 v3 v4) (.bool v5) (.slice v6 v7 v8))
   have hwq:w.heap.size≤q:=Nat.le_trans hb.out.size hq1
   have HB9:Hid (Below w.heap.size w wh):=zh (Bt hb.out z8)
   have HY9:=zh Y9
   have G5:=zh g5
   have G4:=zh g4
   clear hbg hbh PU z7 z8 c5 l5 y0 y1 y2 y3 z0 b1 b2 g5 g4 l4 Y9 HS IC X5 X4 hb hq1 hq2 hq3
   go_upto_region 8 with fail
   have hQ:=(((HY9.out.set 0 (.bool v1)).set 1 (.slice v2 v3 v4)).set 2 (.bool v5)).set 3 (.slice v6 v7 v8)
   have h5:=(((G5.out.setOther (a:=⟨q,0,none⟩) (.bool v1) hn5).setOther (a:=⟨q,1,none⟩) (.slice v2 v3 v4) hn5).setOther (a:=⟨q,2,none⟩) (.bool v5) hn5).setOther (a:=⟨q,3,none⟩) (.slice v6 v7 v8) hn5
   have h4:=(((G4.out.setOther (a:=⟨q,0,none⟩) (.bool v1) hn4).setOther (a:=⟨q,1,none⟩) (.slice v2 v3 v4) hn4).setOther (a:=⟨q,2,none⟩) (.bool v5) hn4).setOther (a:=⟨q,3,none⟩) (.slice v6 v7 v8) hn4
   have hB:=(((HB9.out.setCell (p:=⟨q,0,none⟩) hwq (.bool v1)).setCell (p:=⟨q,1,none⟩) hwq (.slice v2 v3 v4)).setCell (p:=⟨q,2,none⟩) hwq (.bool v5)).setCell (p:=⟨q,3,none⟩) hwq (.slice v6 v7 v8)
   have hs:=HS9.out
   have hr:=HR9.out
   obtain ⟨W9,EW⟩:∃ y,((((wh.setCell ⟨q,0,none⟩ (.bool v1)).setCell ⟨q,1,none⟩ (.slice v2 v3 v4)).setCell ⟨q,2,none⟩ (.bool v5)).setCell ⟨q,3,none⟩ (.slice v6 v7 v8))=y:=⟨_,rfl⟩
   rw [EW] at hQ h5 h4 hB hs hr ⊢
   have Q9:Hid (ah W9 q #[.bool v1,.slice v2 v3 v4,.bool v5,.slice v6 v7 v8] 123):=zh hQ
   replace G5:=zh h5
   replace G4:=zh h4
   have HBW:=zh hB
   replace HS9:=zh hs
   replace HR9:=zh hr
   clear hQ h5 h4 hB hs hr EW HY9 HB9 c9 l9 f9
   have t2:(k:Int).tmod 2=(k:Int)%2:=Int.tmod_eq_emod_of_nonneg zo
   have w2:IntKind.i64.wrap ((k:Int)%2)=(k:Int)%2:=by unfold IntKind.wrap;simp [IntKind.bits];omega
   have c9:=Q9.out.cell
   have l9:=Q9.out.lt
   have f9:=Q9.out.free
   by_cases hp:k%2=1
   ·have hpi:(k:Int)%2=1:=by omega
    have HF:=zh (HO.out k hp)
    clear hp
    go_wp2_with fail
    refine (aL.uU _ _ _ HS9.out).mono ?_
    rintro e wi ⟨v,rfl,hbi,hrn⟩
    obtain ⟨n1,n2,n3,n4',n5,n6,n7,n8,rfl, -, -⟩:=id hrn
    rw [← HF.out] at hrn
    have Y9:=Q9.out.later hbi
    have d9:=Y9.cell
    have e9:=Y9.lt
    have g9:=Y9.free
    have hN:=zh (Ra.sI hrn Y9 zd (.bool n1) (.slice n2 n3 n4') (.bool n5) (.slice n6 n7 n8))
    have hR:=zh (Ra.sI (HR9.out.later hbi) Y9 zd (.bool n1) (.slice n2 n3 n4') (.bool n5) (.slice n6 n7 n8))
    have hB:=zh (((((HBW.out.trans (Below.mono hbi HBW.out.size)).setCell (p:=⟨q,0,none⟩) hwq (.bool n1)).setCell (p:=⟨q,1,none⟩) hwq (.slice n2 n3 n4')).setCell (p:=⟨q,2,none⟩) hwq (.bool n5)).setCell (p:=⟨q,3,none⟩) hwq (.slice n6 n7 n8))
    have hQ:=zh ((((Y9.set 0 (.bool n1)).set 1 (.slice n2 n3 n4')).set 2 (.bool n5)).set 3 (.slice n6 n7 n8))
    have h5:=zh (((((G5.out.later hbi).setOther (a:=⟨q,0,none⟩) (.bool n1) hn5).setOther (a:=⟨q,1,none⟩) (.slice n2 n3 n4') hn5).setOther (a:=⟨q,2,none⟩) (.bool n5) hn5).setOther (a:=⟨q,3,none⟩) (.slice n6 n7 n8) hn5)
    have h4:=zh (((((G4.out.later hbi).setOther (a:=⟨q,0,none⟩) (.bool n1) hn4).setOther (a:=⟨q,1,none⟩) (.slice n2 n3 n4') hn4).setOther (a:=⟨q,2,none⟩) (.bool n5) hn4).setOther (a:=⟨q,3,none⟩) (.slice n6 n7 n8) hn4)
    clear hrn hbi c9 l9 f9 Y9
    go_upto_region 10 with fail
    clear d9 e9 g9
    obtain ⟨Wx,EW⟩:∃ y,((((wi.setCell ⟨q,0,none⟩ (.bool n1)).setCell ⟨q,1,none⟩ (.slice n2 n3 n4')).setCell ⟨q,2,none⟩ (.bool n5)).setCell ⟨q,3,none⟩ (.slice n6 n7 n8))=y:=⟨_,rfl⟩
    rw [EW] at hN hR hB hQ h5 h4 ⊢
    have Q9x:Hid (ah Wx q #[.bool n1,.slice n2 n3 n4',.bool n5,.slice n6 n7 n8] 123):=hQ
    have G5x:Hid (ah Wx p5 #[.bool bn,.slice pn ln cn,.bool bd,.slice pd ld cd] 123):=h5
    have G4x:=h4
    have HBx:=hB
    have HRx:=hR
    have HFx:=hN
    have c9:=Q9x.out.cell
    have l9:=Q9x.out.lt
    clear hN hR hB hQ h5 h4 EW
    have c5:=G5x.out.cell
    have l5:=G5x.out.lt
    have f5:=G5x.out.free
    go_wp2_with fail
    refine (PL.out k hlt _ _ _ HRx.out HFx.out).mono ?_
    rintro e wy ⟨v,rfl,hby,hrp⟩
    obtain ⟨m1,m2,m3,m4,m5,m6,m7,m8,rfl, -, -⟩:=id hrp
    have Y5:=G5x.out.later hby
    have d5:=Y5.cell
    have e5:=Y5.lt
    have g5:=Y5.free
    have hN:=Ra.sI hrp Y5 zd (.bool m1) (.slice m2 m3 m4) (.bool m5) (.slice m6 m7 m8)
    have hbz:=(((((HBx.out.trans (Below.mono hby HBx.out.size)).setCell (p:=⟨p5,0,none⟩) h05 (.bool m1)).setCell (p:=⟨p5,1,none⟩) h05 (.slice m2 m3 m4)).setCell (p:=⟨p5,2,none⟩) h05 (.bool m5)).setCell (p:=⟨p5,3,none⟩) h05 (.slice m6 m7 m8))
    have NN:=zh hN
    have BZ:=zh hbz
    have Z5:=zh ((((Y5.set 0 (.bool m1)).set 1 (.slice m2 m3 m4)).set 2 (.bool m5)).set 3 (.slice m6 m7 m8))
    have hn45:p4≠p5:=by omega
    have Z4:=zh (((((G4x.out.later hby).setOther (a:=⟨p5,0,none⟩) (.bool m1) hn45).setOther (a:=⟨p5,1,none⟩) (.slice m2 m3 m4) hn45).setOther (a:=⟨p5,2,none⟩) (.bool m5) hn45).setOther (a:=⟨p5,3,none⟩) (.slice m6 m7 m8) hn45)
    clear hrp hN hbz hby c5 l5 f5 Y5
    go_wp2_with fail
    go_roundw
    case rel=>exact ⟨k+1,m1,m2,m3,m4,m5,m6,m7,m8,by go_num,by omega,Z5,Z4,NN,BZ⟩
    case measure=>exact zM
   ·have hpi:(k:Int)%2=0:=by omega
    have HF:=zh (HE.out k hp)
    clear hp
    have G5x:=G5
    have G4x:=G4
    have HBx:=HBW
    have HRx:=HR9
    have HFx:Hid (Ra W9 (.agg #[.bool v1,.slice v2 v3 v4,.bool v5,.slice v6 v7 v8]) (F k)):=zh (by rw [HF.out];exact HS9.out)
    have c5:=G5x.out.cell
    have l5:=G5x.out.lt
    have f5:=G5x.out.free
    go_wp2_with fail
    refine (PL.out k hlt _ _ _ HRx.out HFx.out).mono ?_
    rintro e wy ⟨v,rfl,hby,hrp⟩
    obtain ⟨m1,m2,m3,m4,m5,m6,m7,m8,rfl, -, -⟩:=id hrp
    have Y5:=G5x.out.later hby
    have d5:=Y5.cell
    have e5:=Y5.lt
    have g5:=Y5.free
    have hN:=Ra.sI hrp Y5 zd (.bool m1) (.slice m2 m3 m4) (.bool m5) (.slice m6 m7 m8)
    have hbz:=(((((HBx.out.trans (Below.mono hby HBx.out.size)).setCell (p:=⟨p5,0,none⟩) h05 (.bool m1)).setCell (p:=⟨p5,1,none⟩) h05 (.slice m2 m3 m4)).setCell (p:=⟨p5,2,none⟩) h05 (.bool m5)).setCell (p:=⟨p5,3,none⟩) h05 (.slice m6 m7 m8))
    have NN:=zh hN
    have BZ:=zh hbz
    have Z5:=zh ((((Y5.set 0 (.bool m1)).set 1 (.slice m2 m3 m4)).set 2 (.bool m5)).set 3 (.slice m6 m7 m8))
    have hn45:p4≠p5:=by omega
    have Z4:=zh (((((G4x.out.later hby).setOther (a:=⟨p5,0,none⟩) (.bool m1) hn45).setOther (a:=⟨p5,1,none⟩) (.slice m2 m3 m4) hn45).setOther (a:=⟨p5,2,none⟩) (.bool m5) hn45).setOther (a:=⟨p5,3,none⟩) (.slice m6 m7 m8) hn45)
    clear hrp hN hbz hby c5 l5 f5 Y5
    go_wp2_with fail
    go_roundw
    case rel=>exact ⟨k+1,m1,m2,m3,m4,m5,m6,m7,m8,by go_num,by omega,Z5,Z4,NN,BZ⟩
    case measure=>exact zM
  ·obtain rfl:k=n+1:=by omega
   have c4:=X4.out.cell
   have l4:=X4.out.lt
   have f4:=X4.out.free
   go_wp2_with fail
   have Y4:=(((X4.out.set 0 (.bool bn)).set 1 (.slice pn ln cn)).set 2 (.bool bd)).set 3 (.slice pd ld cd)
   refine dO rfl rfl Y4 Tryz.underlying123 rfl zk ?_
   exact ⟨_,rfl,(((hb.out.setCell h44 _).setCell h44 _).setCell h44 _).setCell h44 _,Ra.sI IC.out X4.out zd _ _ _ _⟩
theorem Minors_ok:∀ (n:Nat),n≤4→∀ (v:Value) (m:RM) (w:World),Dw w v m→m.length=n→(∀ r∈m,r.length=n∧∀ q∈r,qW 67 q)→Calls Tryz.prog 76 #[v] w (pz w (minorF n m))
 | 0,_,v,m,w,h,hm,_=>by
  have:m=[]:=List.length_eq_zero_iff.1 hm
  subst this
  exact Minors_zero v w h
 | n+1,h4,v,m,w,h,hm,hr=>Minors_succ n h4 (Minors_ok n zo) v m w h hm hr
end Go.Proofs.aI
namespace Go.Proofs.aI
open Go Go.RowKit Go.SW Go.Num Go.Mem Go.Proofs Go.Dec Go.dF Go.Proofs.aL Go.Proofs.matrix
def adjT (m:RM) (n i j:Nat):Rat:=if (i+j)%2=1 then -(minorF (n - 1) (withoutQ m j i) / minorF n m) else minorF (n - 1) (withoutQ m j i) / minorF n m
def adjM (m:RM) (n:Nat):RM:=(List.range n).map fun i=>(List.range n).map (adjT m n i)
theorem adjT_sz {m:RM} {n i j:Nat} (hm:m.length=n) (hr:∀ r∈m,r.length=n∧∀ q∈r,qW 67 q) (hi:i<n) (hj:j<n) (n4:n≤4) (hd:minorF n m≠0):Sz1 (adjT m n i j):=by
 obtain ⟨n,rfl⟩:∃ k,n=k+1:=⟨n - 1,by omega⟩
 have h1:=minorF_sz n _ (withoutQ_rows hr (by omega:j<m.length) hm hi).1 (withoutQ_rows hr (by omega:j<m.length) hm hi).2
 have h2:=minorF_sz (n+1) m hm hr
 have l1:=MB_le (n:=n) zo
 have l2:=MB_le (n:=n+1) zo
 have h3:qW 100000000 (minorF n (withoutQ m j i) / minorF (n+1) m):=by
  rw [Rat.div_def]
  exact (VT (h1.mono (show MB n≤1200000 by omega)) ((szq_inv h2 hd).mono zo)).mono zo
 unfold adjT Sz1
 rw [Nat.add_sub_cancel]
 split
 ·exact VR h3
 ·exact h3
theorem Inverse_ok (v:Value) (m:RM) (n:Nat) (w:World) (h:aP w v m.fr) (hok:m.ok n) (hm:m.length=n) (hd:minorF n m≠0) :
  Calls Tryz.prog 38 #[v] w (MatPost w (if uR (adjM m n) then 0 else 6) (adjM m n).fr):=by
 obtain ⟨i0,hi0,hz0,hz1,hz2⟩:=info_parts ad2
 obtain ⟨i1,hi1,hy0,hy1,hy2⟩:=info_parts Xf
 obtain ⟨m1,m4,n1,n4,hrows⟩:=id hok
 have hr:∀ r∈m,r.length=n∧∀ q∈r,qW 67 q:=fun r hr=>⟨(hrows r hr).1,szM hok r hr⟩
 have hrl:∀ r∈m,r.length=n:=fun r h=>(hr r h).1
 have RI:=zh (Right_yes v m _ w h hok)
 have IN:=zh (fun W (hW:Below w.heap.size w W)=>Ai v m W (h.later hW) (fun r hr=>(hrows r hr).2) ⟨by omega,fun r hr=>by rw [(hrows r hr).1];omega⟩)
 have MD:=zh (fun x W (hx:Dw W x m)=>Minors_ok n n4 x m W hx hm hr)
 have WO:Hid (∀ i,i<n→∀ j,j<n→∀ x W,Dw W x m→Calls Tryz.prog 81 #[x,.int .i64 (j:Int),.int .i64 (i:Int)] W (Yl W (withoutQ m j i))):=zh fun i hi j hj x W hx=>without_ok x m n j i W hx hrl zo hi zo n4
 have hn':n - 1+1=n:=by omega
 have hwr:∀ i,i<n→∀ j,j<n→(withoutQ m j i).length=n - 1∧∀ r∈withoutQ m j i,r.length=n - 1∧∀ q∈r,qW 67 q:=fun i hi j hj=>withoutQ_rows (n:=n - 1) (fun r h=>by rw [hn'];exact hr r h) zo zo zo
 have MI:Hid (∀ i,i<n→∀ j,j<n→∀ x W,Dw W x (withoutQ m j i)→Calls Tryz.prog 76 #[x] W (pz W (minorF (n - 1) (withoutQ m j i)))):=zh fun i hi j hj x W hx=>Minors_ok (n - 1) zo x _ W hx (hwr i hi j hj).1 (hwr i hi j hj).2
 have l1:=MB_le (n:=n - 1) zo
 have l2:=MB_le (n:=n) n4
 have OV:Hid (∀ i,i<n→∀ j,j<n→∀ x y W,Ra W x (minorF (n - 1) (withoutQ m j i))→Ra W y (minorF n m)→Calls Tryz.prog 80 #[x,y] W (pz W (minorF (n - 1) (withoutQ m j i) / minorF n m))):=zh fun i hi j hj x y W hx hy=>Over_ok x y _ _ W hx hy ((minorF_sz _ _ (hwr i hi j hj).1 (hwr i hi j hj).2).mono zo) ((minorF_sz n m hm hr).mono zo) hd
 have HO:Hid (∀ i j,(i+j)%2=1→adjT m n i j= -(minorF (n - 1) (withoutQ m j i) / minorF n m)):=zh fun i j h=>by unfold adjT;rw [if_pos h]
 have HE:Hid (∀ i j,(i+j)%2≠1→adjT m n i j=minorF (n - 1) (withoutQ m j i) / minorF n m):=zh fun i j h=>by unfold adjT;rw [if_neg h]
 have OU:=zh (fun v W h=>OutM_ok v (adjM m n) W h (fun r hr' q hq=>by
  obtain ⟨i,hi,rfl⟩:=List.mem_map.1 hr'
  obtain ⟨j,hj,rfl⟩:=List.mem_map.1 hq
  exact adjT_sz hm hr (List.mem_range.1 hi) (List.mem_range.1 hj) n4 hd) ⟨by unfold adjM;simp;omega,fun r hr'=>by
  obtain ⟨i,hi,rfl⟩:=List.mem_map.1 hr'
  simp;omega⟩)
 generalize (if uR (adjM m n) then (0:Int) else 6)=er at *
 rw [show adjM m n=(List.range n).map fun i=>(List.range n).map (adjT m n i) from rfl] at OU ⊢
 obtain ⟨a,cap,rfl, -, -, hread⟩:=aP.read h
 have hfl:m.fr.length=n:=by rw [RM.fr,List.length_map,hm]
 obtain ⟨b,off,a0,c0,rfl,lb,cell0, -⟩:=hread 0 zo
 have e0:(m.fr[0]'zo).length=n:=by
  simp only [RM.fr,List.getElem_map,List.length_map]
  exact (hr _ (List.getElem_mem _)).1
 rw [e0] at cell0
 rw [hfl] at RI IN ⊢
 have hdn:0<(minorF n m).num.natAbs:=by
  refine Nat.pos_of_ne_zero fun e=>hd (Rat.num_eq_zero.1 zo)
 have HMN:=zh hm
 clear hread h hok e0 hfl hrows hr hrl hwr l1 l2 hd hm
 obtain ⟨D,ED⟩:∃ D,minorF n m=D:=⟨_,rfl⟩
 obtain ⟨F,EF⟩:∃ F,adjT m n=F:=⟨_,rfl⟩
 obtain ⟨X,EX⟩:∃ X:Nat→Nat→Rat,Hid ((fun i j=>minorF (n - 1) (withoutQ m j i))=X):=⟨_,zh rfl⟩
 have ex:∀ i j,minorF (n - 1) (withoutQ m j i)=X i j:=fun i j=>by rw [← EX.out]
 simp only [ED,EF,ex] at MD MI OV HO HE OU hdn ⊢
 clear ED EF EX ex
 have h0n:0<n:=by omega
 go_enter Tryz.func38,Tryz.ntmps38
 go_wp2_with fail
 refine RI.out.mono ?_
 rintro e w1 ⟨rfl,hb1⟩
 have ck:=(hb1.cell (p:=⟨b,off,none⟩) lb).trans cell0
 have l2:b<w1.heap.size:=Nat.lt_of_lt_of_le lb hb1.size
 have g1:((n:Int) != (n:Int))=false:=by simp
 go_wp2_with fail
 refine (IN.out _ hb1).mono ?_
 rintro e w2 ⟨v,rfl,hb2,hmv⟩
 obtain ⟨ax,cx,e⟩:=SlV.slice hmv
 rw [HMN.out] at e
 subst e
 have h2:=Bt hb1 hb2
 clear ck l2 cell0 lb
 go_wp2_with fail
 refine (MD.out _ _ hmv).mono ?_
 rintro e w3 ⟨v,rfl,hb3,hra⟩
 obtain ⟨bn,pn,ln,cn,bd,pd,ld,cd,rfl,Tf, -⟩:=id hra
 have hl:=Tf.nm.1.as2 hdn
 have HM:=zh (hmv.later hb3)
 have HB3:=zh (Bt h2 hb3)
 have hl0:((ln:Int) == 0)=false:=by simp;omega
 have IC:=zh hra
 clear Tf hra hb1 hb2 hb3 h2 hmv RI IN MD hdn hl
 go_wp2_with fail
 have h34:Below w3.heap.size w3 (w3.alloc (.cells #[.bool bn,.slice pn ln cn,.bool bd,.slice pd ld cd] 123)):=belA
 have hx5:=ah.new w3 #[.bool bn,.slice pn ln cn,.bool bd,.slice pd ld cd] 123
 obtain ⟨w4,E4⟩:∃ y,w3.alloc (.cells #[.bool bn,.slice pn ln cn,.bool bd,.slice pd ld cd] 123)=y:=⟨_,rfl⟩
 rw [E4] at h34 hx5 ⊢
 obtain ⟨p5,E5⟩:∃ y,w3.heap.size=y:=⟨_,rfl⟩
 rw [E5] at hx5 ⊢
 have X5:=zh hx5
 replace HM:=zh (HM.out.later h34)
 replace IC:=zh (IC.out.later h34)
 have HB4:=zh (Bt HB3.out h34)
 clear E4 E5 hx5 h34 HB3
 go_loopw [6,7] (fun ov iv wr=>∃ k:Nat,iv= .int .i64 (k:Int)∧k≤n∧Hid (dQ wr w4.heap.size 118 1 Dt ov ((List.range k).map fun i=>(List.range n).map (F i)))∧Below w4.heap.size w4 wr) (fun _ iv _=>n - (intOf iv).toNat)
 case atStart=>exact ⟨0,rfl,by omega,zh (dQ.nil _ _ _ _ _),Below.refl _ _⟩
 case round =>
  obtain ⟨k,rfl,hk,HG,hb⟩:=hrel
  rcases Nat.lt_or_ge k n with hlt|hge
  ·obtain ⟨wo,rfl⟩:∃ wo:World,wo=wr:=⟨_,rfl⟩
   obtain ⟨ov,cv,rfl⟩:=HG.out.at (n:=k) zi
   have HBo:=zh hb
   clear hb
   go_wp2_with fail
   go_loopw [8,9] (fun rv jv wr=>∃ j:Nat,jv= .int .i64 (j:Int)∧j≤n∧Hid (dQ wr wo.heap.size 123 4 Vt rv ((List.range j).map (F k)))∧Below wo.heap.size wo wr) (fun _ jv _=>n - (intOf jv).toNat)
   case atStart=>exact ⟨0,rfl,by omega,zh (dQ.nil _ _ _ _ _),Below.refl _ _⟩
   case round =>
    obtain ⟨j,rfl,hj,HR,hbi⟩:=hrel
    rcases Nat.lt_or_ge j n with hjlt|aQ2
    ·obtain ⟨rv,rc,rfl⟩:=HR.out.at (n:=j) zi
     have hbw:=Bt HBo.out hbi
     have x5:=X5.out.later hbw
     have c5:=x5.cell
     have l5:=x5.lt
     have HM':=zh (HM.out.later hbw)
     have HD':=zh (IC.out.later hbw)
     have HBi:=zh hbi
     clear hbi hbw x5
     go_wp2_with fail
     refine aD [(.pure,0),(.pure,1),(.pure,2),(.read,5),(.ext,3),(.ext,4),(.ext,6),(.alloc #[.bool false,.slice none 0 0,.bool false,.slice none 0 0] 123,7),(.fin,8)] zk zk zR zP ?_;refine Wk.out ?_;(iterate 4 (first|(apply wk_skip;(rfl);(rfl);(rfl);(intro J hJ;go_simp;(with_reducible refine hJ _ ?_);clear hJ J))|(apply wk_len;(rfl);(rfl);(rfl);(rfl);(exact zk);(intro J hJ;go_simp;(with_reducible refine hJ _ ?_);clear hJ J))|(apply wk_pure;(rfl);(rfl);(intro J hJ;go_simp;(with_reducible refine hJ _ ?_);clear hJ J))|(apply wk_load;(rfl);(rfl);(rfl);(rfl);(intro J hJ;go_simp;(with_reducible refine hJ _ ?_);clear hJ J;try go_simp))))
     refine wk_ext rfl rfl (fun wa hba J hJ=>?_);go_simp
     have z1:Below wr.heap.size wr wa:=belA
     refine (WO.out k hlt j hjlt _ _ (HM'.out.later z1)).mono ?_
     rintro e wb ⟨v,rfl,hbb,hmw⟩
     obtain ⟨qa,qc,rfl⟩:=SlV.slice hmw
     have HW:=zh hmw
     have z2:=Bt z1 hbb
     refine hJ _ _ hbb ?_
     clear hJ J hmw hba hbb
     refine wk_ext rfl rfl (fun wc hbc J hJ=>?_);go_simp
     have z3:Below wb.heap.size wb wc:=belA
     refine (MI.out k hlt j hjlt _ _ (HW.out.later z3)).mono ?_
     rintro e wd ⟨v,rfl,hbd,hrt⟩
     obtain ⟨u1,u2,u3,u4,u5,u6,u7,u8,rfl, -, -⟩:=id hrt
     have HT:=zh hrt
     have z4:=Bt (Bt z2 z3) hbd
     refine hJ _ _ hbd ?_
     clear hJ J hrt hbc hbd z1 z2 z3 HW
     refine wk_ext rfl rfl (fun we hbe J hJ=>?_);go_simp
     have z5:Below wd.heap.size wd we:=belA
     have z6:=Bt z4 z5
     refine (OV.out k hlt j hjlt _ _ _ (HT.out.later z5) (HD'.out.later z6)).mono ?_
     rintro e wf ⟨v,rfl,hbf,hrs⟩
     obtain ⟨v1,v2,v3,v4,v5,v6,v7,v8,rfl, -, -⟩:=id hrs
     have HS:=zh hrs
     have z7:=Bt z6 hbf
     refine hJ _ _ hbf ?_
     clear hJ J hrs hbe hbf z4 z5 z6 HT HM' HD'
     refine wk_alloc rfl (fun q wg hbg hq1 hq2 hq3 PU=>?_);go_simp
     replace PU:ah wg q #[.bool false,.slice none 0 0,.bool false,.slice none 0 0] 123:=PU
     refine wk_fin [_] rfl (fun wh hbh=>?_)
     have z8:=Bt (Bt z7 hbg) hbh
     have Y9:=PU.later hbh
     have c9:=Y9.cell
     have l9:=Y9.lt
     have f9:=Y9.free
     have hs:=Ra.sI ((HS.out.later hbg).later hbh) Y9 zd (.bool v1) (.slice v2 v3 v4) (.bool v5) (.slice v6 v7 v8)
     have hQ:=(((Y9.set 0 (.bool v1)).set 1 (.slice v2 v3 v4)).set 2 (.bool v5)).set 3 (.slice v6 v7 v8)
     have hZ:=(((z8.setCell (p:=⟨q,0,none⟩) hq1 (.bool v1)).setCell (p:=⟨q,1,none⟩) hq1 (.slice v2 v3 v4)).setCell (p:=⟨q,2,none⟩) hq1 (.bool v5)).setCell (p:=⟨q,3,none⟩) hq1 (.slice v6 v7 v8)
     have HS9:=zh hs
     have HQ9:=zh hQ
     have HZ9:=zh hZ
     clear hbg hbh PU z7 z8 c5 l5 Y9 HS hs hQ hZ hq2 hq3
     go_upto_region 18 with fail
     clear c9 l9 f9
     obtain ⟨W9,EW⟩:∃ y,((((wh.setCell ⟨q,0,none⟩ (.bool v1)).setCell ⟨q,1,none⟩ (.slice v2 v3 v4)).setCell ⟨q,2,none⟩ (.bool v5)).setCell ⟨q,3,none⟩ (.slice v6 v7 v8))=y:=⟨_,rfl⟩
     rw [EW] at HS9 HQ9 HZ9 ⊢
     have Q9:Hid (ah W9 q #[.bool v1,.slice v2 v3 v4,.bool v5,.slice v6 v7 v8] 123):=HQ9
     have ZW:=HZ9
     clear EW HQ9 HZ9
     have t2:((k:Int)+(j:Int)).tmod 2=((k:Int)+(j:Int))%2:=Int.tmod_eq_emod_of_nonneg zo
     have w2:IntKind.i64.wrap (((k:Int)+(j:Int))%2)=((k:Int)+(j:Int))%2:=by unfold IntKind.wrap;simp [IntKind.bits];omega
     have w3:IntKind.i64.wrap ((k:Int)+(j:Int))=(k:Int)+(j:Int):=by unfold IntKind.wrap;simp [IntKind.bits];omega
     have c9:=Q9.out.cell
     have l9:=Q9.out.lt
     have f9:=Q9.out.free
     by_cases hp:(k+j)%2=1
     ·have hpi:((k:Int)+(j:Int))%2=1:=by omega
      have HF:=zh (HO.out k j hp)
      clear hp
      go_wp2_with fail
      refine (aL.uU _ _ _ HS9.out).mono ?_
      rintro e wi ⟨v,rfl,hbi,hrn⟩
      obtain ⟨n1',n2,n3,n4',n5,n6,n7,n8,rfl, -, -⟩:=id hrn
      rw [← HF.out] at hrn
      have Y9:=Q9.out.later hbi
      have d9:=Y9.cell
      have e9:=Y9.lt
      have g9:=Y9.free
      have hN:=zh (Ra.sI hrn Y9 zd (.bool n1') (.slice n2 n3 n4') (.bool n5) (.slice n6 n7 n8))
      have hQ:=zh ((((Y9.set 0 (.bool n1')).set 1 (.slice n2 n3 n4')).set 2 (.bool n5)).set 3 (.slice n6 n7 n8))
      have hZ:=zh (((((Bt ZW.out hbi).setCell (p:=⟨q,0,none⟩) hq1 (.bool n1')).setCell (p:=⟨q,1,none⟩) hq1 (.slice n2 n3 n4')).setCell (p:=⟨q,2,none⟩) hq1 (.bool n5)).setCell (p:=⟨q,3,none⟩) hq1 (.slice n6 n7 n8))
      clear hrn hbi c9 l9 f9 Y9
      go_upto_region 20 with fail
      clear d9 e9 g9
      obtain ⟨Wx,EW⟩:∃ y,((((wi.setCell ⟨q,0,none⟩ (.bool n1')).setCell ⟨q,1,none⟩ (.slice n2 n3 n4')).setCell ⟨q,2,none⟩ (.bool n5)).setCell ⟨q,3,none⟩ (.slice n6 n7 n8))=y:=⟨_,rfl⟩
      rw [EW] at hN hQ hZ ⊢
      have Q9x:Hid (ah Wx q #[.bool n1',.slice n2 n3 n4',.bool n5,.slice n6 n7 n8] 123):=hQ
      have ZX:=hZ
      have HFx:=hN
      have c9:=Q9x.out.cell
      have l9:=Q9x.out.lt
      clear hN hQ hZ EW
      go_wp2_with (at_builtin;refine wpList_grow (w0:=wo) rfl (.tmp 56) (.tmp 58) 118 rfl 123 i0 (.agg #[.bool false,.slice none 0 0,.bool false,.slice none 0 0]) 4 64 Tryz.underlying118 hi0 hz0 hz1 hz2 rfl zd Vt _ ((List.range j).map (F k)) rfl (HR.out.later (Bt ZX.out belA) (Vt.stay zi)) (Bt HBi.out (Bt ZX.out belA)) _ [.bool n1',.slice n2 n3 n4',.bool n5,.slice n6 n7 n8] (F k j) rfl (ah.new _ _ _) rfl ?c1 ⟨_,_,_,_,_,_,_,_,rfl,HFx.out.later belA⟩ (Vt.stay zi) ?c2 zo ?_)
      case c1=>first|(intro u hu;simp only [List.mem_cons,List.not_mem_nil,or_false] at hu;rcases hu with rfl|rfl|rfl|rfl<;>rfl)|exact ⟨rfl,rfl,rfl,rfl⟩
      case c2=>simp;omega
      intro v' w9 hg ou _
      have HG2:Hid (dQ w9 wo.heap.size 123 4 Vt v' ((List.range (j+1)).map (F k))):=zh (by rw [sJ];exact hg)
      clear hg HR
      go_wp2_with fail
      go_roundw
      case rel=>exact ⟨j+1,by go_num,by omega,HG2,ou⟩
      case measure=>exact zM
     ·have hpi:((k:Int)+(j:Int))%2=0:=by omega
      have HF:=zh (HE.out k j hp)
      clear hp
      have ZX:=ZW
      have HFx:Hid (Ra W9 (.agg #[.bool v1,.slice v2 v3 v4,.bool v5,.slice v6 v7 v8]) (F k j)):=zh (by rw [HF.out];exact HS9.out)
      go_wp2_with (at_builtin;refine wpList_grow (w0:=wo) rfl (.tmp 56) (.tmp 58) 118 rfl 123 i0 (.agg #[.bool false,.slice none 0 0,.bool false,.slice none 0 0]) 4 64 Tryz.underlying118 hi0 hz0 hz1 hz2 rfl zd Vt _ ((List.range j).map (F k)) rfl (HR.out.later (Bt ZX.out belA) (Vt.stay zi)) (Bt HBi.out (Bt ZX.out belA)) _ [.bool v1,.slice v2 v3 v4,.bool v5,.slice v6 v7 v8] (F k j) rfl (ah.new _ _ _) rfl ?c1 ⟨_,_,_,_,_,_,_,_,rfl,HFx.out.later belA⟩ (Vt.stay zi) ?c2 zo ?_)
      case c1=>first|(intro u hu;simp only [List.mem_cons,List.not_mem_nil,or_false] at hu;rcases hu with rfl|rfl|rfl|rfl<;>rfl)|exact ⟨rfl,rfl,rfl,rfl⟩
      case c2=>simp;omega
      intro v' w9 hg ou _
      have HG2:Hid (dQ w9 wo.heap.size 123 4 Vt v' ((List.range (j+1)).map (F k))):=zh (by rw [sJ];exact hg)
      clear hg HR
      go_wp2_with fail
      go_roundw
      case rel=>exact ⟨j+1,by go_num,by omega,HG2,ou⟩
      case measure=>exact zM
    ·obtain rfl:j=n:=by omega
     have HRV:Hid (xH wr _ _):=zh HR.out.YG
     obtain ⟨rv,rc,rfl⟩:=HR.out.at (n:=j) zi
     have HB3:=zh (Bt HBo.out hbi)
     replace HG:=zh (HG.out.later hbi (Dt.stay zi zi))
     clear hbi HR
     go_wp2_with (at_builtin;refine wpList_grow (w0:=w4) rfl (.tmp 60) (.tmp 62) 116 rfl 118 i1 (.slice none 0 0) 1 24 Tryz.underlying116 hi1 hy0 hy1 hy2 rfl zd Dt _ ((List.range k).map fun i=>(List.range j).map (F i)) rfl (HG.out.later belA (Dt.stay zi zi)) (Bt HB3.out belA) _ [.slice rv j rc] ((List.range j).map (F k)) rfl (ah.new _ _ _) rfl ?c1 ⟨_,rfl,HRV.out.later belA⟩ (Dt.stay zi zi) ?c2 zo ?_)
     case c1=>first|(intro u hu;simp only [List.mem_cons,List.not_mem_nil,or_false] at hu;rcases hu with rfl;rfl)|rfl
     case c2=>simp;omega
     intro v' w9 hg ou _
     have HG2:Hid (dQ w9 w4.heap.size 118 1 Dt v' ((List.range (k+1)).map fun i=>(List.range j).map (F i))):=zh (by rw [sJ];exact hg)
     clear hg HG HRV
     go_wp2_with fail
     go_roundw
     case rel=>exact ⟨k+1,by go_num,by omega,HG2,ou⟩
     case measure=>exact zM
  ·obtain rfl:k=n:=by omega
   obtain ⟨ov,cv,rfl⟩:=HG.out.at (n:=k) zi
   have OUV:=zh (OU.out _ _ HG.out.YG)
   have HB2:=zh (Bt HB4.out hb)
   go_wp2_with fail
   refine OUV.out.mono ?_
   rintro e w6 ⟨hb6,v,rfl,hy1',hy2'⟩
   have HP:Hid (MatPost w er _ (.returned (.tuple #[v,.int .i64 er])) w6):=zh ⟨Bt HB2.out hb6,v,rfl,hy1',hy2'⟩
   clear hy1' hy2' hb6
   go_wp2_with fail
   go_ret2
   exact HP.out
end Go.Proofs.aI
namespace Go.Proofs.matrix
open Go Go.Num Go.Proofs Go.dF Go.Proofs.aI
theorem bprod_prD {m:RM} {n:Nat} (hn:1≤n∧n≤4):((nE m n:Nat):Rat)=prD n fun i=>((bO (m.getD i []):Nat):Rat):=by
 have:n=1∨n=2∨n=3∨n=4:=by omega
 rcases this with rfl|rfl|rfl|rfl<;>simp [nE,prD,Rat.natCast_mul]
theorem rtop_at {m:RM} {n i j:Nat} (hm:∀ r∈m,r.length=n) (hi:i<m.length) (hj:j<n):((IM.at (m.map dX) i j:Int):Rat)=atR m i j*((bO (m.getD i []):Nat):Rat):=by
 have e:m.getD i []=m[i]:=by simp [hi]
 have hl:=hm m[i] (List.getElem_mem _)
 have hj2:j<m[i].length:=by omega
 unfold IM.at atR
 rw [e]
 have e1:((m.map dX).getD i [])=dX m[i]:=by simp [hi]
 rw [e1]
 unfold dX
 have e2:(m[i].map (iW (bO m[i]))).getD j 0=iW (bO m[i]) m[i][j]:=by simp [hj2]
 have e3:m[i].getD j 0=m[i][j]:=by simp [hj2]
 rw [e2,e3]
 obtain ⟨k1,k2⟩:=gV m[i]
 have:=LQ k1 (k2 m[i][j] (List.getElem_mem _))
 have hne:((bO m[i]:Nat):Rat)≠0:=by
  rw [Ne,Rat.natCast_eq_zero_iff]
  omega
 generalize ((bO m[i]:Nat):Rat)=d at *
 generalize ((iW (bO m[i]) m[i][j]:Int):Rat)=x at *
 rw [← this]
 grind
theorem rtop_rows {m:RM} {n:Nat} (hm:∀ r∈m,r.length=n):∀ i,i<m.length→((m.map dX).getD i []).length=n:=fun i hi=>by
 have e1:((m.map dX).getD i [])=dX m[i]:=by simp [hi]
 rw [e1]
 unfold dX
 rw [List.length_map]
 exact hm _ (List.getElem_mem _)
theorem detQ_eq {m:RM} {n:Nat} (h:m.ok n) (hm:m.length=n):XK m=dR n (atR m):=by
 obtain ⟨h1,h2,h3,h4,h5⟩:=h
 have hl:∀ r∈m,r.length=n:=fun r hr=>(h5 r hr).1
 have:=det_rat (n:=n) ⟨h3,h4⟩ (f:=atR m) (D:=fun i=>bO (m.getD i [])) (fun i _=>(gV _).1) (rs:=m.map dX) (by simp [hm]) (fun i hi=>rtop_rows hl i zo) (fun i hi j hj=>rtop_at (m:=m) hl zo hj) rfl
 unfold XK Um
 rw [hm,bprod_prD ⟨h3,h4⟩,← this]
theorem invQ_eq {m:RM} {n:Nat} (h:m.ok n) (hm:m.length=n):((Bv m).1=0↔dR n (atR m)=0)∧((Bv m).1≠0→∀ i,i<n→∀ c,c<n→smR n (fun k=>atR m i k*ac9 m k c)=dl i c):=by
 obtain ⟨h1,h2,h3,h4,h5⟩:=h
 have hl:∀ r∈m,r.length=n:=fun r hr=>(h5 r hr).1
 have:=inv_rat (n:=n) ⟨h3,h4⟩ (f:=atR m) (D:=fun i=>bO (m.getD i [])) (fun i _=>(gV _).1) (rs:=m.map dX) (by simp [hm]) (fun i hi j hj=>rtop_at (m:=m) hl zo hj) rfl
 unfold ac9 Bv
 rw [hm]
 exact this
theorem invM_mk (m:RM):CZ m=mkR m.length m.length (ac9 m):=rfl
theorem inv_one {n:Nat} (hn:1≤n∧n≤4) {f g h:Nat→Nat→Rat} (hd:dR n f≠0) (h1:∀ i,i<n→∀ c,c<n→smR n (fun k=>f i k*g k c)=dl i c) (h2:∀ i,i<n→∀ c,c<n→smR n (fun k=>f i k*h k c)=dl i c):∀ i,i<n→∀ c,c<n→g i c=h i c:=fun i hi c hc=>by
 have k1:=left_inv hn hd h1
 have e:=smR_swap hn (g i) f (fun l=>h l c)
 have e1:smR n (fun k=>g i k*smR n (fun l=>f k l*h l c))=g i c:=by
  rw [← smR_dl2 hn hc (g i)]
  exact smR_congr hn fun k hk=>by rw [h2 k hk c hc]
 have e2:smR n (fun l=>smR n (fun k=>g i k*f k l)*h l c)=h i c:=by
  rw [← smR_dl hn hi (fun l=>h l c)]
  exact smR_congr hn fun l hl=>by rw [k1 i hi l hl]
 rw [← e1,e,e2]
end Go.Proofs.matrix
namespace Go.Proofs.matrix
open Go Go.Num Go.Proofs Go.dF Go.Proofs.aI
theorem mk1 (f:Nat→Nat→Rat):mkR 1 1 f=[[f 0 0]]:=rfl
theorem mk2 (f:Nat→Nat→Rat):mkR 2 2 f=[[f 0 0,f 0 1],[f 1 0,f 1 1]]:=rfl
theorem mk3' (f:Nat→Nat→Rat):mkR 3 3 f=[[f 0 0,f 0 1,f 0 2],[f 1 0,f 1 1,f 1 2],[f 2 0,f 2 1,f 2 2]]:=rfl
theorem mk4 (f:Nat→Nat→Rat):mkR 4 4 f=[[f 0 0,f 0 1,f 0 2,f 0 3],[f 1 0,f 1 1,f 1 2,f 1 3],[f 2 0,f 2 1,f 2 2,f 2 3],[f 3 0,f 3 1,f 3 2,f 3 3]]:=rfl
theorem min1 (a:Rat):minorF 1 [[a]]=a:=by
 simp [minorF,minT,qw,withoutQ,cutR,Rat.zero_add,Rat.mul_one]
theorem min2 (a b c d:Rat):minorF 2 [[a,b],[c,d]]=a*d - b*c:=by
 have e:minorF 2 [[a,b],[c,d]]=0+a*minorF 1 [[d]]+ -(b*minorF 1 [[c]]):=rfl
 rw [e,min1,min1]
 grind
theorem min3 (a b c d e f g h i:Rat):minorF 3 [[a,b,c],[d,e,f],[g,h,i]]=a*(e*i - f*h) - b*(d*i - f*g)+c*(d*h - e*g):=by
 have k:minorF 3 [[a,b,c],[d,e,f],[g,h,i]]=0+a*minorF 2 [[e,f],[h,i]]+ -(b*minorF 2 [[d,f],[g,i]])+c*minorF 2 [[d,e],[g,h]]:=rfl
 rw [k,min2,min2,min2]
 grind
theorem min4 (a b c d:Rat) (e0 e1 e2 e3 f0 f1 f2 f3 g0 g1 g2 g3:Rat):minorF 4 [[a,b,c,d],[e0,e1,e2,e3],[f0,f1,f2,f3],[g0,g1,g2,g3]]=a*minorF 3 [[e1,e2,e3],[f1,f2,f3],[g1,g2,g3]] - b*minorF 3 [[e0,e2,e3],[f0,f2,f3],[g0,g2,g3]]+c*minorF 3 [[e0,e1,e3],[f0,f1,f3],[g0,g1,g3]] - d*minorF 3 [[e0,e1,e2],[f0,f1,f2],[g0,g1,g2]]:=by
 have k:minorF 4 [[a,b,c,d],[e0,e1,e2,e3],[f0,f1,f2,f3],[g0,g1,g2,g3]]=0+a*minorF 3 [[e1,e2,e3],[f1,f2,f3],[g1,g2,g3]]+ -(b*minorF 3 [[e0,e2,e3],[f0,f2,f3],[g0,g2,g3]])+c*minorF 3 [[e0,e1,e3],[f0,f1,f3],[g0,g1,g3]]+ -(d*minorF 3 [[e0,e1,e2],[f0,f1,f2],[g0,g1,g2]]):=rfl
 rw [k]
 generalize minorF 3 [[e1,e2,e3],[f1,f2,f3],[g1,g2,g3]]=x
 generalize minorF 3 [[e0,e2,e3],[f0,f2,f3],[g0,g2,g3]]=y
 generalize minorF 3 [[e0,e1,e3],[f0,f1,f3],[g0,g1,g3]]=z
 generalize minorF 3 [[e0,e1,e2],[f0,f1,f2],[g0,g1,g2]]=u
 grind
theorem minor_dR {n:Nat} (hn:1≤n∧n≤4) (f:Nat→Nat→Rat):minorF n (mkR n n f)=dR n f:=by
 have:n=1∨n=2∨n=3∨n=4:=by omega
 rcases this with rfl|rfl|rfl|rfl
 ·rw [mk1,min1];simp [dR]
 ·rw [mk2,min2];simp [dR,R2];grind
 ·rw [mk3',min3];simp [dR,R3];grind
 ·rw [mk4,min4,min3,min3,min3,min3];simp [dR,R4,R3];grind
theorem adj_inv {n:Nat} (hn:1≤n∧n≤4) {f:Nat→Nat→Rat} (hd:dR n f≠0):∀ i,i<n→∀ c,c<n→smR n (fun k=>f i k*adjT (mkR n n f) n k c)=dl i c:=by
 have key:∀ i,i<n→∀ c,c<n→smR n (fun k=>f i k*(if (k+c)%2=1 then -minorF (n - 1) (withoutQ (mkR n n f) c k) else minorF (n - 1) (withoutQ (mkR n n f) c k)))=dl i c*dR n f:=by
  rw [← minor_dR hn]
  have:n=1∨n=2∨n=3∨n=4:=by omega
  rcases this with rfl|rfl|rfl|rfl
  ·intro i hi c hc
   obtain rfl:i=0:=by omega
   obtain rfl:c=0:=by omega
   rw [mk1,min1]
   simp [smR,minorF,withoutQ,dl,Rat.mul_one,Rat.one_mul]
  ·intro i hi c hc
   rw [mk2,min2]
   have hi':i=0∨i=1:=by omega
   have hc':c=0∨c=1:=by omega
   rcases hi' with rfl|rfl<;>rcases hc' with rfl|rfl<;>simp [smR,withoutQ,cutR,dl,min1]<;>grind
  ·intro i hi c hc
   rw [mk3',min3]
   have hi':i=0∨i=1∨i=2:=by omega
   have hc':c=0∨c=1∨c=2:=by omega
   rcases hi' with rfl|rfl|rfl<;>rcases hc' with rfl|rfl|rfl<;>simp [smR,withoutQ,cutR,dl,min2]<;>grind
  ·intro i hi c hc
   rw [mk4,min4,min3,min3,min3,min3]
   have hi':i=0∨i=1∨i=2∨i=3:=by omega
   have hc':c=0∨c=1∨c=2∨c=3:=by omega
   rcases hi' with rfl|rfl|rfl|rfl<;>rcases hc' with rfl|rfl|rfl|rfl<;>simp [smR,withoutQ,cutR,dl,min3]<;>grind
 intro i hi c hc
 have h1:=key i hi c hc
 have h2:∀ k,adjT (mkR n n f) n k c=(if (k+c)%2=1 then -minorF (n - 1) (withoutQ (mkR n n f) c k) else minorF (n - 1) (withoutQ (mkR n n f) c k))*(dR n f)⁻¹:=fun k=>by
  unfold adjT
  rw [minor_dR hn]
  split<;>grind
 have h3:smR n (fun k=>f i k*adjT (mkR n n f) n k c)=smR n (fun k=>(f i k*(if (k+c)%2=1 then -minorF (n - 1) (withoutQ (mkR n n f) c k) else minorF (n - 1) (withoutQ (mkR n n f) c k)))*(dR n f)⁻¹):=smR_congr hn fun k _=>by rw [h2 k];grind
 rw [h3,smR_mul hn (fun k=>f i k*(if (k+c)%2=1 then -minorF (n - 1) (withoutQ (mkR n n f) c k) else minorF (n - 1) (withoutQ (mkR n n f) c k))),h1]
 generalize dR n f=d at *
 generalize dl i c=e at *
 grind
theorem det_as {m:RM} {n:Nat} (h:m.ok n) (hm:m.length=n):minorF n m=XK m:=by
 have e:=h.mk
 rw [hm] at e
 rw [detQ_eq h hm]
 conv=>lhs;rw [e]
 exact minor_dR ⟨h.2.2.1,h.2.2.2.1⟩ _
theorem pivot_as {m:RM} {n:Nat} (h:m.ok n) (hm:m.length=n):(Bv m).1=0↔minorF n m=0:=by
 rw [det_as h hm,detQ_eq h hm]
 exact (invQ_eq h hm).1
theorem inv_as {m:RM} {n:Nat} (h:m.ok n) (hm:m.length=n) (hd:minorF n m≠0):adjM m n=CZ m:=by
 have e:=h.mk
 rw [hm] at e
 have hn:1≤n∧n≤4:=⟨h.2.2.1,h.2.2.2.1⟩
 have hd':dR n (atR m)≠0:=by rw [← detQ_eq h hm,← det_as h hm];exact hd
 have h0:(Bv m).1≠0:=fun x=>hd ((pivot_as h hm).1 x)
 have h1:=(invQ_eq h hm).2 h0
 have h2:=adj_inv hn hd'
 rw [← e] at h2
 have:=inv_one hn hd' h1 h2
 rw [invM_mk,hm]
 unfold adjM mkR
 exact List.map_congr_left fun i hi=>List.map_congr_left fun j hj=>(this i (List.mem_range.1 hi) j (List.mem_range.1 hj)).symm
end Go.Proofs.matrix
namespace Go.Proofs.aI
open Go Go.RowKit Go.SW Go.Num Go.Mem Go.Proofs Go.Dec Go.dF Go.Proofs.aL Go.Proofs.matrix
theorem fits_RM {m:List (List Fr)} (h:kW m=true):Zu m:=by
 obtain ⟨e,o⟩:=yL h
 rw [e]
 exact fitsM o
end Go.Proofs.aI
namespace Go.Proofs.aI
open Go Go.RowKit Go.SW Go.Num Go.Mem Go.Proofs Go.Dec Go.dF Go.Proofs.aL Go.Proofs.matrix
theorem XI (v:Value) (m:List (List Fr)) (w:World) (h:aP w v m) (hf:Zu m) (hk:kW m=false) :
  Calls Tryz.prog 36 #[v] w (fun e w'=>e= .returned (Fr.res (Fr.no,50))∧Below w.heap.size w w'):=by
 have HC:=zh (fun W (hW:Below w.heap.size w W)=>Right_ok v m W (h.later hW) hf)
 rw [hk] at HC
 obtain ⟨a,cap,rfl⟩:=aP.sl h
 clear h hk hf
 unfold Fr.res Fr.no Fr.v
 go_enter Tryz.func36,Tryz.ntmps36
 go_wp2_with fail
 refine (HC.out _ belA).mono ?_
 rintro e v1 ⟨rfl,hc1⟩
 have BR:=ah.later (ah.new _ _ _) hc1;have bW:=BR.cell;have bZ:=BR.free;have fu:=BR.lt
 go_wp2_with fail
 refine bH rfl rfl boxA Tryz.underlying59 rfl zk ?_
 exact ⟨rfl,belA⟩
theorem XJ (v:Value) (m:List (List Fr)) (w:World) (h:aP w v m) (hk:kW m=true) (hne:m.length≠(m.headD []).length) :
  Calls Tryz.prog 36 #[v] w (fun e w'=>e= .returned (Fr.res (Fr.no,2))∧Below w.heap.size w w'):=by
 have HC:=zh (fun W (hW:Below w.heap.size w W)=>Right_ok v m W (h.later hW) (fits_RM hk))
 rw [hk] at HC
 have k1:=(okM_parts hk).1
 obtain ⟨ba,vL,OI,a0,cap0,rfl,CY,zZ⟩:=aP.top h zo
 generalize (m.headD []).length=x at *
 have h0:0<m.length:=by omega
 generalize m.length=y at *
 have hd:((y:Int) != (x:Int))=true:=by simp;omega
 have hd2:decide ((y:Int)=(x:Int))=false:=decide_eq_false zo
 clear h hk k1 hne
 unfold Fr.res Fr.no Fr.v
 go_enter Tryz.func36,Tryz.ntmps36
 go_wp2_with fail
 refine (HC.out _ belA).mono ?_
 rintro e v1 ⟨rfl,hc1⟩
 have BR:=ah.later (ah.new _ _ _) hc1;have bW:=BR.cell;have bZ:=BR.free;have fu:=BR.lt
 have hw1:Below w.heap.size w v1:=belA
 have c1:=(hw1.cell (p:=⟨ba,vL,none⟩) CY).trans zZ
 have l1:ba<v1.heap.size:=Nat.lt_of_lt_of_le CY hw1.size
 clear zZ
 go_wp2_with fail
 refine bH rfl rfl boxA Tryz.underlying59 rfl zk ?_
 exact ⟨rfl,belA⟩
theorem det_main (v:Value) (m:RM) (n:Nat) (w:World) (h:aP w v m.fr) (hok:m.ok n) (hm:m.length=n) :
  Calls Tryz.prog 36 #[v] w (fun e w'=>e= .returned (Fr.res (dF.wr (minorF n m)))∧Below w.heap.size w w'):=by
 obtain ⟨m1,m4,n1,n4,hrows⟩:=id hok
 have hr:∀ r∈m,r.length=n∧∀ q∈r,qW 67 q:=fun r hr=>⟨(hrows r hr).1,szM hok r hr⟩
 have RI:=zh (fun W (hW:Below w.heap.size w W)=>Right_yes v m _ W (h.later hW) hok)
 have IN:=zh (fun W (hW:Below w.heap.size w W)=>Ai v m W (h.later hW) (fun r hr=>(hrows r hr).2) ⟨by omega,fun r hr=>by rw [(hrows r hr).1];omega⟩)
 have MD:=zh (fun x W (hx:Dw W x m)=>Minors_ok n n4 x m W hx hm hr)
 have hs:Sz1 (minorF n m):=(minorF_sz n m hm hr).mono (Nat.le_trans (MB_le n4) zo)
 have OU:=zh (fun x W (hx:Ra W x (minorF n m))=>Out_at hs x W hx)
 unfold ai1 at OU
 obtain ⟨a,cap,rfl, -, -, hread⟩:=aP.read h
 have hfl:m.fr.length=n:=by rw [RM.fr,List.length_map,hm]
 obtain ⟨b,off,a0,c0,rfl,lb,cell0, -⟩:=hread 0 zo
 have e0:(m.fr[0]'zo).length=n:=by
  simp only [RM.fr,List.getElem_map,List.length_map]
  exact (hr _ (List.getElem_mem _)).1
 rw [e0] at cell0
 rw [hfl] at RI IN ⊢
 have HMN:=zh hm
 clear hread h hok e0 hfl hrows hr hm hs
 obtain ⟨R,ER⟩:∃ R,dF.wr (minorF n m)=R:=⟨_,rfl⟩
 obtain ⟨D,ED⟩:∃ D,minorF n m=D:=⟨_,rfl⟩
 have h0n:0<n:=by omega
 have g1:((n:Int) != (n:Int))=false:=by simp
 rw [ER] at OU ⊢
 rw [ED] at MD OU
 obtain ⟨⟨s,t⟩,er⟩:=R
 unfold Fr.res Fr.v at OU ⊢
 clear ER ED
 go_enter Tryz.func36,Tryz.ntmps36
 go_wp2_with fail
 obtain ⟨w0,ZI⟩:∃ y,w.alloc (.cells #[.string ⟨#[]⟩,.string ⟨#[]⟩] 59)=y:=⟨_,rfl⟩
 have hw0:Below w.heap.size w w0:=by rw [← ZI];exact belA
 have BR:ah w0 w.heap.size #[.string ⟨#[]⟩,.string ⟨#[]⟩] 59:=by rw [← ZI];exact boxA
 rw [ZI]
 clear ZI
 have XR:=zh BR
 clear BR
 refine (RI.out _ hw0).mono ?_
 rintro e w1 ⟨rfl,hb⟩
 replace XR:=zh (XR.out.later hb)
 have hb1:=Bt hw0 hb
 clear hb hw0
 have ck:=(hb1.cell (p:=⟨b,off,none⟩) lb).trans cell0
 have l2:b<w1.heap.size:=Nat.lt_of_lt_of_le lb hb1.size
 go_wp2_with fail
 refine (IN.out _ hb1).mono ?_
 rintro e w2 ⟨v,rfl,hb2,hmv⟩
 replace XR:=zh (XR.out.later hb2)
 obtain ⟨ax,cx,e⟩:=SlV.slice hmv
 rw [HMN.out] at e
 subst e
 clear ck l2 cell0 lb
 go_wp2_with fail
 refine (MD.out _ _ hmv).mono ?_
 rintro e w3 ⟨v,rfl,hb3,hra⟩
 replace XR:=zh (XR.out.later hb3)
 obtain ⟨bn,pn,ln,cn,bd,pd,ld,cd,rfl,Tf, -⟩:=id hra
 have HR:=zh hra
 clear hra Tf hmv
 go_wp2_with fail
 refine (OU.out _ _ HR.out).mono ?_
 rintro e w4 ⟨rfl,hb4⟩
 have BR:=XR.out.later hb4
 have hz:=Bt (Bt (Bt hb1 hb2) hb3) hb4
 have c:=BR.cell
 have l:=BR.lt
 have f:=BR.free
 go_wp2_with fail
 refine bH rfl rfl boxA Tryz.underlying59 rfl zk ?_
 exact ⟨rfl,belA⟩
theorem Det_any (v:Value) (m:List (List Fr)) (w:World) (h:aP w v m) (hf:Zu m) :
  Calls Tryz.prog 36 #[v] w (fun e w'=>e= .returned (Fr.res (ag7 m))∧Below w.heap.size w w'):=by
 unfold ag7
 cases hk:kW m with
 | false=>rw [if_neg zi];exact XI v m w h hf hk
 | true =>
  rw [if_pos rfl]
  by_cases hl:m.length=(m.headD []).length
  ·rw [if_pos hl]
   obtain ⟨e1,o1⟩:=yL hk
   rw [← hl,← Cu m] at o1
   rw [← det_as o1 rfl]
   exact det_main v (Cv m) _ w (e1 ▸ h) o1 rfl
  ·rw [if_neg hl]
   exact XJ v m w h hk hl
end Go.Proofs.aI
namespace Go.Proofs.aI
open Go Go.RowKit Go.SW Go.Num Go.Mem Go.Proofs Go.Dec Go.dF Go.Proofs.aL Go.Proofs.matrix
theorem inv_bad (v:Value) (m M:List (List Fr)) (w:World) (h:aP w v m) (hf:Zu m) (hk:kW m=false) :
  Calls Tryz.prog 38 #[v] w (MatPost w 50 M):=by
 have HC:=zh (Right_ok v m w h hf)
 rw [hk] at HC
 obtain ⟨a,cap,rfl⟩:=aP.sl h
 clear h hk hf
 go_enter Tryz.func38,Tryz.ntmps38
 go_wp2_with fail
 refine HC.out.mono ?_
 rintro e v1 ⟨rfl,hc1⟩
 go_wp2_with fail
 go_ret2
 exact MatPost.no hc1 zd
theorem inv_arg (v:Value) (m M:List (List Fr)) (w:World) (h:aP w v m) (hk:kW m=true) (hne:m.length≠(m.headD []).length) :
  Calls Tryz.prog 38 #[v] w (MatPost w 2 M):=by
 have HC:=zh (Right_ok v m w h (fits_RM hk))
 rw [hk] at HC
 have k1:=(okM_parts hk).1
 obtain ⟨ba,vL,OI,a0,cap0,rfl,CY,zZ⟩:=aP.top h zo
 generalize (m.headD []).length=x at *
 have h0:0<m.length:=by omega
 generalize m.length=y at *
 have hd:((y:Int) != (x:Int))=true:=by simp;omega
 have hd2:decide ((y:Int)=(x:Int))=false:=decide_eq_false zo
 clear h hk k1 hne
 go_enter Tryz.func38,Tryz.ntmps38
 go_wp2_with fail
 refine HC.out.mono ?_
 rintro e v1 ⟨rfl,hc1⟩
 have c1:=(hc1.cell (p:=⟨ba,vL,none⟩) CY).trans zZ
 have l1:ba<v1.heap.size:=Nat.lt_of_lt_of_le CY hc1.size
 clear zZ
 go_wp2_with fail
 go_ret2
 exact MatPost.no hc1 zd
theorem inv_zero (v:Value) (m:RM) (n:Nat) (M:List (List Fr)) (w:World) (h:aP w v m.fr) (hok:m.ok n) (hm:m.length=n) (hd:minorF n m=0) :
  Calls Tryz.prog 38 #[v] w (MatPost w 7 M):=by
 obtain ⟨m1,m4,n1,n4,hrows⟩:=id hok
 have hr:∀ r∈m,r.length=n∧∀ q∈r,qW 67 q:=fun r hr=>⟨(hrows r hr).1,szM hok r hr⟩
 have RI:=zh (Right_yes v m _ w h hok)
 have IN:=zh (fun W (hW:Below w.heap.size w W)=>Ai v m W (h.later hW) (fun r hr=>(hrows r hr).2) ⟨by omega,fun r hr=>by rw [(hrows r hr).1];omega⟩)
 have MD:=zh (fun x W (hx:Dw W x m)=>Minors_ok n n4 x m W hx hm hr)
 rw [hd] at MD
 obtain ⟨a,cap,rfl, -, -, hread⟩:=aP.read h
 have hfl:m.fr.length=n:=by rw [RM.fr,List.length_map,hm]
 obtain ⟨b,off,a0,c0,rfl,lb,cell0, -⟩:=hread 0 zo
 have e0:(m.fr[0]'zo).length=n:=by
  simp only [RM.fr,List.getElem_map,List.length_map]
  exact (hr _ (List.getElem_mem _)).1
 rw [e0] at cell0
 rw [hfl] at RI IN ⊢
 have HMN:=zh hm
 clear hread h hok e0 hfl hrows hr hm hd
 have h0n:0<n:=by omega
 have g1:((n:Int) != (n:Int))=false:=by simp
 go_enter Tryz.func38,Tryz.ntmps38
 go_wp2_with fail
 refine RI.out.mono ?_
 rintro e w1 ⟨rfl,hb1⟩
 have ck:=(hb1.cell (p:=⟨b,off,none⟩) lb).trans cell0
 have l2:b<w1.heap.size:=Nat.lt_of_lt_of_le lb hb1.size
 go_wp2_with fail
 refine (IN.out _ hb1).mono ?_
 rintro e w2 ⟨v,rfl,hb2,hmv⟩
 obtain ⟨ax,cx,e⟩:=SlV.slice hmv
 rw [HMN.out] at e
 subst e
 clear ck l2 cell0 lb
 go_wp2_with fail
 refine (MD.out _ _ hmv).mono ?_
 rintro e w3 ⟨v,rfl,hb3,hra⟩
 obtain ⟨bn,pn,ln,cn,bd,pd,ld,cd,rfl,Tf, -⟩:=id hra
 obtain rfl:=Tf.nm.1.as3 zd
 have hb:=Bt (Bt hb1 hb2) hb3
 clear Tf hra hmv hb1 hb2 hb3
 go_wp2_with fail
 go_ret2
 exact MatPost.no (Bt hb belA) zd
theorem Inverse_any (v:Value) (m:List (List Fr)) (w:World) (h:aP w v m) (hf:Zu m) :
  Calls Tryz.prog 38 #[v] w (MatPost w (uy m) (Gp m)):=by
 unfold uy Gp
 cases hk:kW m with
 | false=>rw [if_neg zi];exact inv_bad v m _ w h hf hk
 | true =>
  rw [if_pos rfl]
  by_cases hl:m.length=(m.headD []).length
  ·rw [if_pos hl]
   obtain ⟨e1,o1⟩:=yL hk
   rw [← hl,← Cu m] at o1
   unfold Xe
   by_cases hd:minorF (Cv m).length (Cv m)=0
   ·rw [if_pos ((pivot_as o1 rfl).2 hd)]
    exact inv_zero v (Cv m) _ _ w (e1 ▸ h) o1 rfl hd
   ·rw [if_neg (fun e=>hd ((pivot_as o1 rfl).1 e)),← inv_as o1 rfl hd]
    exact Inverse_ok v (Cv m) _ w (e1 ▸ h) o1 rfl hd
  ·rw [if_neg hl]
   exact inv_arg v m _ w h hk hl
end Go.Proofs.aI
