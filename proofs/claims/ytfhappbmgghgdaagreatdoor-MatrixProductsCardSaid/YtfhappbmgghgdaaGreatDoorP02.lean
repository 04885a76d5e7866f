/- Lemmas for the proof. No condition. -/
import Derived.Test.YtfhappbmgghgdaaGreatDoorP01
set_option linter.unusedVariables false
set_option linter.unusedSimpArgs false
set_option maxRecDepth 100000
set_option maxHeartbeats 16000000
namespace Go.Proofs.verdigrislaw05
open Go Go.RowKit Go.SW Go.Num Go.Mem Go.Proofs Go.Dec Go.dF Go.Proofs.matrix Go.Proofs.aI
def GivC (w:World) (f:FuncId) (args:Array Value) (n:Nat) (M:List (List Fr)):Prop:=∀ W,Below w.heap.size w W→Calls Tryz.prog f args W (fun e w'=>∃ a c,e= .returned (.slice a n c)∧Below W.heap.size W w'∧aP w' (.slice a n c) M)
def PairAt (w:World) (b o:Nat) (M N:List (List Fr)):Prop:=∃ a n c a' n' c',w.cell? ⟨b,o,none⟩=some (.slice a n c)∧w.cell? ⟨b,o+1,none⟩=some (.slice a' n' c')∧aP w (.slice a n c) M∧aP w (.slice a' n' c') N
theorem PairAt.later {w w':World} {b o:Nat} {M N:List (List Fr)} (h:PairAt w b o M N) (hb:Below w.heap.size w w') (hl:b<w.heap.size):PairAt w' b o M N:=by
 obtain ⟨a,n,c,a',n',c',h1,h2,h3,h4⟩:=h
 exact ⟨a,n,c,a',n',c',(hb.cell (p:=⟨b,o,none⟩) hl).trans h1,(hb.cell (p:=⟨b,o+1,none⟩) hl).trans h2,h3.later hb,h4.later hb⟩
def Pairs (w:World) (v:Value) (MA MB M1 M2 M4 M5:List (List Fr)):Prop:=∃ b,v= .slice (some ⟨b,0,none⟩) 4 4∧b<w.heap.size∧PairAt w b 0 MA MB∧PairAt w b 2 M1 M2∧PairAt w b 4 M1 M4∧PairAt w b 6 M5 MB
theorem Pairs.later {w w':World} {v:Value} {MA MB M1 M2 M4 M5:List (List Fr)} (h:Pairs w v MA MB M1 M2 M4 M5) (hb:Below w.heap.size w w'):Pairs w' v MA MB M1 M2 M4 M5:=by
 obtain ⟨b,h1,h2,h3,h4,h5,h6⟩:=h
 exact ⟨b,h1,Nat.lt_of_lt_of_le h2 hb.size,h3.later hb h2,h4.later hb h2,h5.later hb h2,h6.later hb h2⟩
theorem pairs_main (r c r1 c1:Int) (A B v v1:Value) (na nb n1 n2 n4 n5:Nat) (MA MB M1 M2 M4 M5:List (List Fr)) (w:World) (hA:∃ a n c,A= .slice a n c) (hB:∃ a n c,B= .slice a n c) (hv:jw w v) (hv1:jw w v1)
  (HA:Hid (GivC w 26 #[A] na MA)) (HB1:Hid (GivC w 26 #[B] nb MB))
  (H1:Hid (GivC w 32 #[.agg #[.int .u8 r,.int .u8 c,v]] n1 M1)) (H2:Hid (GivC w 32 #[.agg #[.int .u8 r1,.int .u8 c1,v1]] n2 M2)) (H4:Hid (GivC w 32 #[.agg #[.int .u8 c,.int .u8 c1,v1]] n4 M4))
  (H5:Hid (GivC w 33 #[.agg #[.int .u8 r,.int .u8 c,v]] n5 M5)) :
  Calls Tryz.prog 20 #[.agg #[A,B,.int .u8 r,.int .u8 c,v,.int .u8 r1,.int .u8 c1,v1]] w (fun e w'=>∃ v',e= .returned v'∧Below w.heap.size w w'∧Pairs w' v' MA MB M1 M2 M4 M5):=by
 obtain ⟨aA,nA,cA,rfl⟩:=hA
 obtain ⟨aB,nB,cB,rfl⟩:=hB
 obtain ⟨a0,nd,cap,rfl, -, -⟩:=hv
 obtain ⟨a1,nd1,aG6,rfl, -, -⟩:=hv1
 go_enter Tryz.func20,Tryz.ntmps20
 go_wp2_with fail
 obtain ⟨u0,EW,hz,HX⟩:=al1 w #[.slice aA nA cA,.slice aB nB cB,.int .u8 r,.int .u8 c,.slice a0 nd cap,.int .u8 r1,.int .u8 c1,.slice a1 nd1 aG6] 28
 rw [EW]
 have HB:=zh hz
 clear EW hz
 have Po:=zh (Below.refl u0.heap.size u0)
 refine aD [(.pure,0),(.read,1),(.pure,3),(.read,4),(.ext,2),(.ext,5),(.fin,6),(.fin,7)] zk zk zR zP ?_
 refine Wk.out ?_
 have cHX:=HX.out.cell
 have lHX:=HX.out.lt
 repeat (first|(apply wk_skip;(rfl);(rfl);(rfl);(intro J hJ;go_simp;(with_reducible refine hJ _ ?_);clear hJ J))|(apply wk_len;(rfl);(rfl);(rfl);(rfl);(exact zk);(intro J hJ;go_simp;(with_reducible refine hJ _ ?_);clear hJ J))|(apply wk_pure;(rfl);(rfl);(intro J hJ;go_simp;(with_reducible refine hJ _ ?_);clear hJ J))|(apply wk_load;(rfl);(rfl);(rfl);(rfl);(intro J hJ;go_simp;(with_reducible refine hJ _ ?_);clear hJ J;try go_simp)))
 clear cHX lHX
 refine wk_ext rfl rfl (fun we hbe J hJ=>?_)
 go_simp
 have hx:Below u0.heap.size u0 we:=belA
 have jr:=zh (Bt HB.out hx)
 refine (HA.out _ jr.out).mono ?_
 rintro e u1 ⟨ba,da,rfl,h,hm⟩
 have hy:=Bt hx h
 refine hJ _ _ h ?_
 clear hJ J hbe hx h jr
 replace HX:=zh (HX.out.later hy)
 replace HB:=zh (Bt HB.out hy)
 replace Po:=zh (Bt Po.out hy)
 clear hy
 have FA:=zh hm
 clear hm
 have cHX:=HX.out.cell
 have lHX:=HX.out.lt
 repeat (first|(apply wk_skip;(rfl);(rfl);(rfl);(intro J hJ;go_simp;(with_reducible refine hJ _ ?_);clear hJ J))|(apply wk_len;(rfl);(rfl);(rfl);(rfl);(exact zk);(intro J hJ;go_simp;(with_reducible refine hJ _ ?_);clear hJ J))|(apply wk_pure;(rfl);(rfl);(intro J hJ;go_simp;(with_reducible refine hJ _ ?_);clear hJ J))|(apply wk_load;(rfl);(rfl);(rfl);(rfl);(intro J hJ;go_simp;(with_reducible refine hJ _ ?_);clear hJ J;try go_simp)))
 clear cHX lHX
 refine wk_ext rfl rfl (fun we hbe J hJ=>?_)
 go_simp
 have hx:Below u1.heap.size u1 we:=belA
 have jr:=zh (Bt HB.out hx)
 refine (HB1.out _ jr.out).mono ?_
 rintro e u2 ⟨bb,db,rfl,h,hm⟩
 have hy:=Bt hx h
 refine hJ _ _ h ?_
 clear hJ J hbe hx h jr
 replace HX:=zh (HX.out.later hy)
 replace FA:=zh (FA.out.later hy)
 replace HB:=zh (Bt HB.out hy)
 replace Po:=zh (Bt Po.out hy)
 clear hy
 have FB:=zh hm
 clear hm
 have cHX:=HX.out.cell
 have lHX:=HX.out.lt
 repeat (first|(apply wk_skip;(rfl);(rfl);(rfl);(intro J hJ;go_simp;(with_reducible refine hJ _ ?_);clear hJ J))|(apply wk_len;(rfl);(rfl);(rfl);(rfl);(exact zk);(intro J hJ;go_simp;(with_reducible refine hJ _ ?_);clear hJ J))|(apply wk_pure;(rfl);(rfl);(intro J hJ;go_simp;(with_reducible refine hJ _ ?_);clear hJ J))|(apply wk_load;(rfl);(rfl);(rfl);(rfl);(intro J hJ;go_simp;(with_reducible refine hJ _ ?_);clear hJ J;try go_simp)))
 clear cHX lHX
 refine wk_fin [_,_] rfl (fun u3 hbf=>?_)
 have hy:Below u2.heap.size u2 u3:=belA
 replace HX:=zh (HX.out.later hy)
 replace FA:=zh (FA.out.later hy)
 replace FB:=zh (FB.out.later hy)
 replace HB:=zh (Bt HB.out hy)
 clear hy hbf Po
 go_wp2_with fail
 have cHX:=HX.out.cell
 have lHX:=HX.out.lt
 refine reg_in zk (reg_two 3 6 zd (reg_walk [(.pure,0),(.read,1),(.pure,2),(.read,3),(.alloc #[.int .u8 0,.int .u8 0,.slice none 0 0] 26,4),(.alloc #[.int .u8 0,.int .u8 0,.slice none 0 0] 26,5),(.fin,6),(.fin,7)] zk zR zP (walk_addE _ _ _ _ _ _ _ (Wk.out ?o1))) (reg_walk [(.pure,0),(.read,1),(.pure,2),(.alloc #[.int .u8 0,.int .u8 0,.slice none 0 0] 26,4),(.alloc #[.int .u8 0,.int .u8 0,.slice none 0 0] 26,5),(.fin,6),(.fin,3),(.fin,7)] zk zR zP (walk_addE _ _ _ _ _ _ _ (Wk.out ?o2))))
 case o1 =>
  repeat (first|(apply wk_skip;(rfl);(rfl);(rfl);(intro J hJ;go_simp;(with_reducible refine hJ _ ?_);clear hJ J))|(apply wk_len;(rfl);(rfl);(rfl);(rfl);(exact zk);(intro J hJ;go_simp;(with_reducible refine hJ _ ?_);clear hJ J))|(apply wk_pure;(rfl);(rfl);(intro J hJ;go_simp;(with_reducible refine hJ _ ?_);clear hJ J))|(apply wk_load;(rfl);(rfl);(rfl);(rfl);(intro J hJ;go_simp;(with_reducible refine hJ _ ?_);clear hJ J;try go_simp)))
  refine wk_alloc rfl (fun q wg hbg hq1 hq2 hq3 PU=>?_);go_simp
  replace PU:ah wg q #[.int .u8 0,.int .u8 0,.slice none 0 0] 26:=PU
  refine wk_alloc rfl (fun p wk hbk hp1 hp2 hp3 hx8=>?_);go_simp
  replace hx8:ah wk p #[.int .u8 0,.int .u8 0,.slice none 0 0] 26:=hx8
  refine wk_fin [_,_] rfl (fun wh hbh=>?_)
  have z0:=Bt (Bt hbg hbk) hbh
  have hd:Below u3.heap.size u3 u3.drew:=belA
  have XH:=(HX.out.later hd).later z0
  have cX:=XH.cell
  have lX:=XH.lt
  have nq:w.heap.size≠q:=by have:=(HX.out.later hd).lt;omega
  have np:w.heap.size≠p:=by have:=(HX.out.later hd).lt;omega
  have nq2:q≠w.heap.size:=fun e=>nq e.symm
  have np2:p≠w.heap.size:=fun e=>np e.symm
  have Y:=(PU.later hbk).later hbh
  have Z:=hx8.later hbh
  have ne:q≠p:=by simp at hp3;omega
  have ne2:p≠q:=fun e=>ne e.symm
  have cY:=Y.cell
  have lY:=Y.lt
  have fY:=Y.free
  have cZ:=Z.cell
  have lZ:=Z.lt
  have fZ:=Z.free
  have HQ:=zh (((((((Y.set 0 (.int .u8 r)).set 1 (.int .u8 c)).set 2 (.slice a0 nd cap)).setOther (a:=⟨p,0,none⟩) (.int .u8 r1) ne).setOther (a:=⟨p,1,none⟩) (.int .u8 c1) ne).setOther (a:=⟨p,2,none⟩) (.slice a1 nd1 aG6) ne).setOther (a:=⟨p,0,none⟩) (.int .u8 c) ne)
  have HR:=zh (((((((Z.setOther (a:=⟨q,0,none⟩) (.int .u8 r) ne2).setOther (a:=⟨q,1,none⟩) (.int .u8 c) ne2).setOther (a:=⟨q,2,none⟩) (.slice a0 nd cap) ne2).set 0 (.int .u8 r1)).set 1 (.int .u8 c1)).set 2 (.slice a1 nd1 aG6)).set 0 (.int .u8 c))
  have HZ:=zh (((((((z0.setCell (p:=⟨q,0,none⟩) hq1 (.int .u8 r)).setCell (p:=⟨q,1,none⟩) hq1 (.int .u8 c)).setCell (p:=⟨q,2,none⟩) hq1 (.slice a0 nd cap)).setCell (p:=⟨p,0,none⟩) hp1 (.int .u8 r1)).setCell (p:=⟨p,1,none⟩) hp1 (.int .u8 c1)).setCell (p:=⟨p,2,none⟩) hp1 (.slice a1 nd1 aG6)).setCell (p:=⟨p,0,none⟩) hp1 (.int .u8 c))
  clear cHX lHX hbg hbk hbh PU hx8 z0 Y Z hq2 hq3 hp2 hp3 hq1 hp1 XH
  go_wp2_with fail
  clear cY lY fY cZ lZ fZ ne ne2 cX lX nq np nq2 np2
  obtain ⟨W9,EW⟩:∃ y,((((((wh.setCell ⟨q,0,none⟩ (.int .u8 r)).setCell ⟨q,1,none⟩ (.int .u8 c)).setCell ⟨q,2,none⟩ (.slice a0 nd cap)).setCell ⟨p,0,none⟩ (.int .u8 r1)).setCell ⟨p,1,none⟩ (.int .u8 c1)).setCell ⟨p,2,none⟩ (.slice a1 nd1 aG6)).setCell ⟨p,0,none⟩ (.int .u8 c)=y:=⟨_,rfl⟩
  rw [EW] at HQ HR HZ ⊢
  have GX:Hid (ah W9 q #[.int .u8 r,.int .u8 c,.slice a0 nd cap] 26):=HQ
  have GY:Hid (ah W9 p #[.int .u8 c,.int .u8 c1,.slice a1 nd1 aG6] 26):=HR
  have hz:=Bt hd HZ.out
  clear EW HQ HR HZ hd
  replace HX:=zh (HX.out.later hz)
  replace FA:=zh (FA.out.later hz)
  replace FB:=zh (FB.out.later hz)
  replace HB:=zh (Bt HB.out hz)
  clear hz
  have Po:=zh (Below.refl W9.heap.size W9)
  refine aD [(.pure,0),(.pure,1),(.pure,2),(.pure,3),(.read,4),(.pure,6),(.read,7),(.read,10),(.read,12),(.pure,15),(.read,16),(.pure,18),(.ext,5),(.ext,8),(.pure,9),(.ext,11),(.ext,13),(.pure,14),(.ext,17),(.pure,19),(.ext,20),(.fin,21)] zk zk zR zP ?_
  refine Wk.out ?_
  have cHX:=HX.out.cell
  have lHX:=HX.out.lt
  have cGX:=GX.out.cell
  have lGX:=GX.out.lt
  have cGY:=GY.out.cell
  have lGY:=GY.out.lt
  repeat (first|(apply wk_skip;(rfl);(rfl);(rfl);(intro J hJ;go_simp;(with_reducible refine hJ _ ?_);clear hJ J))|(apply wk_len;(rfl);(rfl);(rfl);(rfl);(exact zk);(intro J hJ;go_simp;(with_reducible refine hJ _ ?_);clear hJ J))|(apply wk_pure;(rfl);(rfl);(intro J hJ;go_simp;(with_reducible refine hJ _ ?_);clear hJ J))|(apply wk_load;(rfl);(rfl);(rfl);(rfl);(intro J hJ;go_simp;(with_reducible refine hJ _ ?_);clear hJ J;try go_simp)))
  clear cHX lHX
  clear cGX lGX
  clear cGY lGY
  refine wk_ext rfl rfl (fun we hbe J hJ=>?_)
  go_simp
  have hx:Below W9.heap.size W9 we:=belA
  have jr:=zh (Bt HB.out hx)
  refine (H1.out _ jr.out).mono ?_
  rintro e u4 ⟨b1,d1,rfl,h,hm⟩
  have hy:=Bt hx h
  refine hJ _ _ h ?_
  clear hJ J hbe hx h jr
  replace HX:=zh (HX.out.later hy)
  replace FA:=zh (FA.out.later hy)
  replace FB:=zh (FB.out.later hy)
  replace GX:=zh (GX.out.later hy)
  replace GY:=zh (GY.out.later hy)
  replace HB:=zh (Bt HB.out hy)
  clear hy
  have F1:=zh hm
  clear hm
  have cHX:=HX.out.cell
  have lHX:=HX.out.lt
  have cGX:=GX.out.cell
  have lGX:=GX.out.lt
  have cGY:=GY.out.cell
  have lGY:=GY.out.lt
  repeat (first|(apply wk_skip;(rfl);(rfl);(rfl);(intro J hJ;go_simp;(with_reducible refine hJ _ ?_);clear hJ J))|(apply wk_len;(rfl);(rfl);(rfl);(rfl);(exact zk);(intro J hJ;go_simp;(with_reducible refine hJ _ ?_);clear hJ J))|(apply wk_pure;(rfl);(rfl);(intro J hJ;go_simp;(with_reducible refine hJ _ ?_);clear hJ J))|(apply wk_load;(rfl);(rfl);(rfl);(rfl);(intro J hJ;go_simp;(with_reducible refine hJ _ ?_);clear hJ J;try go_simp)))
  clear cHX lHX
  clear cGX lGX
  clear cGY lGY
  refine wk_ext rfl rfl (fun we hbe J hJ=>?_)
  go_simp
  have hx:Below u4.heap.size u4 we:=belA
  have jr:=zh (Bt HB.out hx)
  refine (H2.out _ jr.out).mono ?_
  rintro e u5 ⟨b2,d2,rfl,h,hm⟩
  have hy:=Bt hx h
  refine hJ _ _ h ?_
  clear hJ J hbe hx h jr
  replace HX:=zh (HX.out.later hy)
  replace FA:=zh (FA.out.later hy)
  replace FB:=zh (FB.out.later hy)
  replace GX:=zh (GX.out.later hy)
  replace GY:=zh (GY.out.later hy)
  replace F1:=zh (F1.out.later hy)
  replace HB:=zh (Bt HB.out hy)
  clear hy
  have F2:=zh hm
  clear hm
  have cHX:=HX.out.cell
  have lHX:=HX.out.lt
  have cGX:=GX.out.cell
  have lGX:=GX.out.lt
  have cGY:=GY.out.cell
  have lGY:=GY.out.lt
  repeat (first|(apply wk_skip;(rfl);(rfl);(rfl);(intro J hJ;go_simp;(with_reducible refine hJ _ ?_);clear hJ J))|(apply wk_len;(rfl);(rfl);(rfl);(rfl);(exact zk);(intro J hJ;go_simp;(with_reducible refine hJ _ ?_);clear hJ J))|(apply wk_pure;(rfl);(rfl);(intro J hJ;go_simp;(with_reducible refine hJ _ ?_);clear hJ J))|(apply wk_load;(rfl);(rfl);(rfl);(rfl);(intro J hJ;go_simp;(with_reducible refine hJ _ ?_);clear hJ J;try go_simp)))
  clear cHX lHX
  clear cGX lGX
  clear cGY lGY
  refine wk_ext rfl rfl (fun we hbe J hJ=>?_)
  go_simp
  have hx:Below u5.heap.size u5 we:=belA
  have jr:=zh (Bt HB.out hx)
  refine (H1.out _ jr.out).mono ?_
  rintro e u6 ⟨b3,d3,rfl,h,hm⟩
  have hy:=Bt hx h
  refine hJ _ _ h ?_
  clear hJ J hbe hx h jr
  replace HX:=zh (HX.out.later hy)
  replace FA:=zh (FA.out.later hy)
  replace FB:=zh (FB.out.later hy)
  replace GX:=zh (GX.out.later hy)
  replace GY:=zh (GY.out.later hy)
  replace F1:=zh (F1.out.later hy)
  replace F2:=zh (F2.out.later hy)
  replace HB:=zh (Bt HB.out hy)
  clear hy
  have F3:=zh hm
  clear hm
  have cHX:=HX.out.cell
  have lHX:=HX.out.lt
  have cGX:=GX.out.cell
  have lGX:=GX.out.lt
  have cGY:=GY.out.cell
  have lGY:=GY.out.lt
  repeat (first|(apply wk_skip;(rfl);(rfl);(rfl);(intro J hJ;go_simp;(with_reducible refine hJ _ ?_);clear hJ J))|(apply wk_len;(rfl);(rfl);(rfl);(rfl);(exact zk);(intro J hJ;go_simp;(with_reducible refine hJ _ ?_);clear hJ J))|(apply wk_pure;(rfl);(rfl);(intro J hJ;go_simp;(with_reducible refine hJ _ ?_);clear hJ J))|(apply wk_load;(rfl);(rfl);(rfl);(rfl);(intro J hJ;go_simp;(with_reducible refine hJ _ ?_);clear hJ J;try go_simp)))
  clear cHX lHX
  clear cGX lGX
  clear cGY lGY
  refine wk_ext rfl rfl (fun we hbe J hJ=>?_)
  go_simp
  have hx:Below u6.heap.size u6 we:=belA
  have jr:=zh (Bt HB.out hx)
  refine (H4.out _ jr.out).mono ?_
  rintro e u7 ⟨b4,d4,rfl,h,hm⟩
  have hy:=Bt hx h
  refine hJ _ _ h ?_
  clear hJ J hbe hx h jr
  replace HX:=zh (HX.out.later hy)
  replace FA:=zh (FA.out.later hy)
  replace FB:=zh (FB.out.later hy)
  replace GX:=zh (GX.out.later hy)
  replace GY:=zh (GY.out.later hy)
  replace F1:=zh (F1.out.later hy)
  replace F2:=zh (F2.out.later hy)
  replace F3:=zh (F3.out.later hy)
  replace HB:=zh (Bt HB.out hy)
  clear hy
  have F4:=zh hm
  clear hm
  have cHX:=HX.out.cell
  have lHX:=HX.out.lt
  have cGX:=GX.out.cell
  have lGX:=GX.out.lt
  have cGY:=GY.out.cell
  have lGY:=GY.out.lt
  repeat (first|(apply wk_skip;(rfl);(rfl);(rfl);(intro J hJ;go_simp;(with_reducible refine hJ _ ?_);clear hJ J))|(apply wk_len;(rfl);(rfl);(rfl);(rfl);(exact zk);(intro J hJ;go_simp;(with_reducible refine hJ _ ?_);clear hJ J))|(apply wk_pure;(rfl);(rfl);(intro J hJ;go_simp;(with_reducible refine hJ _ ?_);clear hJ J))|(apply wk_load;(rfl);(rfl);(rfl);(rfl);(intro J hJ;go_simp;(with_reducible refine hJ _ ?_);clear hJ J;try go_simp)))
  clear cHX lHX
  clear cGX lGX
  clear cGY lGY
  refine wk_ext rfl rfl (fun we hbe J hJ=>?_)
  go_simp
  have hx:Below u7.heap.size u7 we:=belA
  have jr:=zh (Bt HB.out hx)
  refine (H5.out _ jr.out).mono ?_
  rintro e u8 ⟨b5,d5,rfl,h,hm⟩
  have hy:=Bt hx h
  refine hJ _ _ h ?_
  clear hJ J hbe hx h jr
  replace HX:=zh (HX.out.later hy)
  replace FA:=zh (FA.out.later hy)
  replace FB:=zh (FB.out.later hy)
  replace GX:=zh (GX.out.later hy)
  replace GY:=zh (GY.out.later hy)
  replace F1:=zh (F1.out.later hy)
  replace F2:=zh (F2.out.later hy)
  replace F3:=zh (F3.out.later hy)
  replace F4:=zh (F4.out.later hy)
  replace HB:=zh (Bt HB.out hy)
  clear hy
  have F5:=zh hm
  clear hm
  repeat (first|(apply wk_skip;(rfl);(rfl);(rfl);(intro J hJ;go_simp;(with_reducible refine hJ _ ?_);clear hJ J))|(apply wk_len;(rfl);(rfl);(rfl);(rfl);(exact zk);(intro J hJ;go_simp;(with_reducible refine hJ _ ?_);clear hJ J))|(apply wk_pure;(rfl);(rfl);(intro J hJ;go_simp;(with_reducible refine hJ _ ?_);clear hJ J))|(apply wk_load;(rfl);(rfl);(rfl);(rfl);(intro J hJ;go_simp;(with_reducible refine hJ _ ?_);clear hJ J;try go_simp)))
  refine wk_ext rfl rfl (fun wc hbc J hJ=>?_);go_simp
  have z2:Below u8.heap.size u8 wc:=belA
  refine hJ _ _ belA ?_
  clear hJ J
  have hbx:=ah.new wc #[.slice ba na da,.slice bb nb db,.slice b1 n1 d1,.slice b2 n2 d2,.slice b3 n1 d3,.slice b4 n4 d4,.slice b5 n5 d5,.slice bb nb db] 43
  refine wk_fin [_] rfl (fun wf hbf=>?_)
  have zf:Below u8.heap.size u8 wf:=Bt (Bt z2 belA) hbf
  have X:=hbx.later hbf
  go_wp2_with fail
  go_ret
  exact ⟨_,rfl,Bt HB.out zf,wc.heap.size,rfl,X.lt,⟨_,_,_,_,_,_,(X.cell 0).trans rfl,(X.cell 1).trans rfl,FA.out.later zf,FB.out.later zf⟩,⟨_,_,_,_,_,_,(X.cell 2).trans rfl,(X.cell 3).trans rfl,F1.out.later zf,F2.out.later zf⟩,⟨_,_,_,_,_,_,(X.cell 4).trans rfl,(X.cell 5).trans rfl,F3.out.later zf,F4.out.later zf⟩,⟨_,_,_,_,_,_,(X.cell 6).trans rfl,(X.cell 7).trans rfl,F5.out.later zf,FB.out.later zf⟩⟩
 case o2 =>
  repeat (first|(apply wk_skip;(rfl);(rfl);(rfl);(intro J hJ;go_simp;(with_reducible refine hJ _ ?_);clear hJ J))|(apply wk_len;(rfl);(rfl);(rfl);(rfl);(exact zk);(intro J hJ;go_simp;(with_reducible refine hJ _ ?_);clear hJ J))|(apply wk_pure;(rfl);(rfl);(intro J hJ;go_simp;(with_reducible refine hJ _ ?_);clear hJ J))|(apply wk_load;(rfl);(rfl);(rfl);(rfl);(intro J hJ;go_simp;(with_reducible refine hJ _ ?_);clear hJ J;try go_simp)))
  refine wk_alloc rfl (fun q wg hbg hq1 hq2 hq3 PU=>?_);go_simp
  replace PU:ah wg q #[.int .u8 0,.int .u8 0,.slice none 0 0] 26:=PU
  refine wk_alloc rfl (fun p wk hbk hp1 hp2 hp3 hx8=>?_);go_simp
  replace hx8:ah wk p #[.int .u8 0,.int .u8 0,.slice none 0 0] 26:=hx8
  refine wk_fin [_,_,_] rfl (fun wh hbh=>?_)
  have z0:=Bt (Bt hbg hbk) hbh
  have hd:Below u3.heap.size u3 u3.drew:=belA
  have XH:=(HX.out.later hd).later z0
  have cX:=XH.cell
  have lX:=XH.lt
  have nq:w.heap.size≠q:=by have:=(HX.out.later hd).lt;omega
  have np:w.heap.size≠p:=by have:=(HX.out.later hd).lt;omega
  have nq2:q≠w.heap.size:=fun e=>nq e.symm
  have np2:p≠w.heap.size:=fun e=>np e.symm
  have Y:=(PU.later hbk).later hbh
  have Z:=hx8.later hbh
  have ne:q≠p:=by simp at hp3;omega
  have ne2:p≠q:=fun e=>ne e.symm
  have cY:=Y.cell
  have lY:=Y.lt
  have fY:=Y.free
  have cZ:=Z.cell
  have lZ:=Z.lt
  have fZ:=Z.free
  have HQ:=zh (((((((Y.set 0 (.int .u8 r)).set 1 (.int .u8 c)).set 2 (.slice a0 nd cap)).setOther (a:=⟨p,0,none⟩) (.int .u8 r1) ne).setOther (a:=⟨p,1,none⟩) (.int .u8 c1) ne).setOther (a:=⟨p,2,none⟩) (.slice a1 nd1 aG6) ne).setOther (a:=⟨p,0,none⟩) (.int .u8 c) ne)
  have HR:=zh (((((((Z.setOther (a:=⟨q,0,none⟩) (.int .u8 r) ne2).setOther (a:=⟨q,1,none⟩) (.int .u8 c) ne2).setOther (a:=⟨q,2,none⟩) (.slice a0 nd cap) ne2).set 0 (.int .u8 r1)).set 1 (.int .u8 c1)).set 2 (.slice a1 nd1 aG6)).set 0 (.int .u8 c))
  have HZ:=zh (((((((z0.setCell (p:=⟨q,0,none⟩) hq1 (.int .u8 r)).setCell (p:=⟨q,1,none⟩) hq1 (.int .u8 c)).setCell (p:=⟨q,2,none⟩) hq1 (.slice a0 nd cap)).setCell (p:=⟨p,0,none⟩) hp1 (.int .u8 r1)).setCell (p:=⟨p,1,none⟩) hp1 (.int .u8 c1)).setCell (p:=⟨p,2,none⟩) hp1 (.slice a1 nd1 aG6)).setCell (p:=⟨p,0,none⟩) hp1 (.int .u8 c))
  clear cHX lHX hbg hbk hbh PU hx8 z0 Y Z hq2 hq3 hp2 hp3 hq1 hp1 XH
  go_wp2_with fail
  clear cY lY fY cZ lZ fZ ne ne2 cX lX nq np nq2 np2
  obtain ⟨W9,EW⟩:∃ y,((((((wh.setCell ⟨q,0,none⟩ (.int .u8 r)).setCell ⟨q,1,none⟩ (.int .u8 c)).setCell ⟨q,2,none⟩ (.slice a0 nd cap)).setCell ⟨p,0,none⟩ (.int .u8 r1)).setCell ⟨p,1,none⟩ (.int .u8 c1)).setCell ⟨p,2,none⟩ (.slice a1 nd1 aG6)).setCell ⟨p,0,none⟩ (.int .u8 c)=y:=⟨_,rfl⟩
  rw [EW] at HQ HR HZ ⊢
  have GX:Hid (ah W9 q #[.int .u8 r,.int .u8 c,.slice a0 nd cap] 26):=HQ
  have GY:Hid (ah W9 p #[.int .u8 c,.int .u8 c1,.slice a1 nd1 aG6] 26):=HR
  have hz:=Bt hd HZ.out
  clear EW HQ HR HZ hd
  replace HX:=zh (HX.out.later hz)
  replace FA:=zh (FA.out.later hz)
  replace FB:=zh (FB.out.later hz)
  replace HB:=zh (Bt HB.out hz)
  clear hz
  have Po:=zh (Below.refl W9.heap.size W9)
  refine aD [(.pure,0),(.pure,1),(.pure,2),(.pure,3),(.read,4),(.pure,6),(.read,7),(.read,10),(.read,12),(.pure,15),(.read,16),(.pure,18),(.ext,5),(.ext,8),(.pure,9),(.ext,11),(.ext,13),(.pure,14),(.ext,17),(.pure,19),(.ext,20),(.fin,21)] zk zk zR zP ?_
  refine Wk.out ?_
  have cHX:=HX.out.cell
  have lHX:=HX.out.lt
  have cGX:=GX.out.cell
  have lGX:=GX.out.lt
  have cGY:=GY.out.cell
  have lGY:=GY.out.lt
  repeat (first|(apply wk_skip;(rfl);(rfl);(rfl);(intro J hJ;go_simp;(with_reducible refine hJ _ ?_);clear hJ J))|(apply wk_len;(rfl);(rfl);(rfl);(rfl);(exact zk);(intro J hJ;go_simp;(with_reducible refine hJ _ ?_);clear hJ J))|(apply wk_pure;(rfl);(rfl);(intro J hJ;go_simp;(with_reducible refine hJ _ ?_);clear hJ J))|(apply wk_load;(rfl);(rfl);(rfl);(rfl);(intro J hJ;go_simp;(with_reducible refine hJ _ ?_);clear hJ J;try go_simp)))
  clear cHX lHX
  clear cGX lGX
  clear cGY lGY
  refine wk_ext rfl rfl (fun we hbe J hJ=>?_)
  go_simp
  have hx:Below W9.heap.size W9 we:=belA
  have jr:=zh (Bt HB.out hx)
  refine (H1.out _ jr.out).mono ?_
  rintro e u4 ⟨b1,d1,rfl,h,hm⟩
  have hy:=Bt hx h
  refine hJ _ _ h ?_
  clear hJ J hbe hx h jr
  replace HX:=zh (HX.out.later hy)
  replace FA:=zh (FA.out.later hy)
  replace FB:=zh (FB.out.later hy)
  replace GX:=zh (GX.out.later hy)
  replace GY:=zh (GY.out.later hy)
  replace HB:=zh (Bt HB.out hy)
  clear hy
  have F1:=zh hm
  clear hm
  have cHX:=HX.out.cell
  have lHX:=HX.out.lt
  have cGX:=GX.out.cell
  have lGX:=GX.out.lt
  have cGY:=GY.out.cell
  have lGY:=GY.out.lt
  repeat (first|(apply wk_skip;(rfl);(rfl);(rfl);(intro J hJ;go_simp;(with_reducible refine hJ _ ?_);clear hJ J))|(apply wk_len;(rfl);(rfl);(rfl);(rfl);(exact zk);(intro J hJ;go_simp;(with_reducible refine hJ _ ?_);clear hJ J))|(apply wk_pure;(rfl);(rfl);(intro J hJ;go_simp;(with_reducible refine hJ _ ?_);clear hJ J))|(apply wk_load;(rfl);(rfl);(rfl);(rfl);(intro J hJ;go_simp;(with_reducible refine hJ _ ?_);clear hJ J;try go_simp)))
  clear cHX lHX
  clear cGX lGX
  clear cGY lGY
  refine wk_ext rfl rfl (fun we hbe J hJ=>?_)
  go_simp
  have hx:Below u4.heap.size u4 we:=belA
  have jr:=zh (Bt HB.out hx)
  refine (H2.out _ jr.out).mono ?_
  rintro e u5 ⟨b2,d2,rfl,h,hm⟩
  have hy:=Bt hx h
  refine hJ _ _ h ?_
  clear hJ J hbe hx h jr
  replace HX:=zh (HX.out.later hy)
  replace FA:=zh (FA.out.later hy)
  replace FB:=zh (FB.out.later hy)
  replace GX:=zh (GX.out.later hy)
  replace GY:=zh (GY.out.later hy)
  replace F1:=zh (F1.out.later hy)
  replace HB:=zh (Bt HB.out hy)
  clear hy
  have F2:=zh hm
  clear hm
  have cHX:=HX.out.cell
  have lHX:=HX.out.lt
  have cGX:=GX.out.cell
  have lGX:=GX.out.lt
  have cGY:=GY.out.cell
  have lGY:=GY.out.lt
  repeat (first|(apply wk_skip;(rfl);(rfl);(rfl);(intro J hJ;go_simp;(with_reducible refine hJ _ ?_);clear hJ J))|(apply wk_len;(rfl);(rfl);(rfl);(rfl);(exact zk);(intro J hJ;go_simp;(with_reducible refine hJ _ ?_);clear hJ J))|(apply wk_pure;(rfl);(rfl);(intro J hJ;go_simp;(with_reducible refine hJ _ ?_);clear hJ J))|(apply wk_load;(rfl);(rfl);(rfl);(rfl);(intro J hJ;go_simp;(with_reducible refine hJ _ ?_);clear hJ J;try go_simp)))
  clear cHX lHX
  clear cGX lGX
  clear cGY lGY
  refine wk_ext rfl rfl (fun we hbe J hJ=>?_)
  go_simp
  have hx:Below u5.heap.size u5 we:=belA
  have jr:=zh (Bt HB.out hx)
  refine (H1.out _ jr.out).mono ?_
  rintro e u6 ⟨b3,d3,rfl,h,hm⟩
  have hy:=Bt hx h
  refine hJ _ _ h ?_
  clear hJ J hbe hx h jr
  replace HX:=zh (HX.out.later hy)
  replace FA:=zh (FA.out.later hy)
  replace FB:=zh (FB.out.later hy)
  replace GX:=zh (GX.out.later hy)
  replace GY:=zh (GY.out.later hy)
  replace F1:=zh (F1.out.later hy)
  replace F2:=zh (F2.out.later hy)
  replace HB:=zh (Bt HB.out hy)
  clear hy
  have F3:=zh hm
  clear hm
  have cHX:=HX.out.cell
  have lHX:=HX.out.lt
  have cGX:=GX.out.cell
  have lGX:=GX.out.lt
  have cGY:=GY.out.cell
  have lGY:=GY.out.lt
  repeat (first|(apply wk_skip;(rfl);(rfl);(rfl);(intro J hJ;go_simp;(with_reducible refine hJ _ ?_);clear hJ J))|(apply wk_len;(rfl);(rfl);(rfl);(rfl);(exact zk);(intro J hJ;go_simp;(with_reducible refine hJ _ ?_);clear hJ J))|(apply wk_pure;(rfl);(rfl);(intro J hJ;go_simp;(with_reducible refine hJ _ ?_);clear hJ J))|(apply wk_load;(rfl);(rfl);(rfl);(rfl);(intro J hJ;go_simp;(with_reducible refine hJ _ ?_);clear hJ J;try go_simp)))
  clear cHX lHX
  clear cGX lGX
  clear cGY lGY
  refine wk_ext rfl rfl (fun we hbe J hJ=>?_)
  go_simp
  have hx:Below u6.heap.size u6 we:=belA
  have jr:=zh (Bt HB.out hx)
  refine (H4.out _ jr.out).mono ?_
  rintro e u7 ⟨b4,d4,rfl,h,hm⟩
  have hy:=Bt hx h
  refine hJ _ _ h ?_
  clear hJ J hbe hx h jr
  replace HX:=zh (HX.out.later hy)
  replace FA:=zh (FA.out.later hy)
  replace FB:=zh (FB.out.later hy)
  replace GX:=zh (GX.out.later hy)
  replace GY:=zh (GY.out.later hy)
  replace F1:=zh (F1.out.later hy)
  replace F2:=zh (F2.out.later hy)
  replace F3:=zh (F3.out.later hy)
  replace HB:=zh (Bt HB.out hy)
  clear hy
  have F4:=zh hm
  clear hm
  have cHX:=HX.out.cell
  have lHX:=HX.out.lt
  have cGX:=GX.out.cell
  have lGX:=GX.out.lt
  have cGY:=GY.out.cell
  have lGY:=GY.out.lt
  repeat (first|(apply wk_skip;(rfl);(rfl);(rfl);(intro J hJ;go_simp;(with_reducible refine hJ _ ?_);clear hJ J))|(apply wk_len;(rfl);(rfl);(rfl);(rfl);(exact zk);(intro J hJ;go_simp;(with_reducible refine hJ _ ?_);clear hJ J))|(apply wk_pure;(rfl);(rfl);(intro J hJ;go_simp;(with_reducible refine hJ _ ?_);clear hJ J))|(apply wk_load;(rfl);(rfl);(rfl);(rfl);(intro J hJ;go_simp;(with_reducible refine hJ _ ?_);clear hJ J;try go_simp)))
  clear cHX lHX
  clear cGX lGX
  clear cGY lGY
  refine wk_ext rfl rfl (fun we hbe J hJ=>?_)
  go_simp
  have hx:Below u7.heap.size u7 we:=belA
  have jr:=zh (Bt HB.out hx)
  refine (H5.out _ jr.out).mono ?_
  rintro e u8 ⟨b5,d5,rfl,h,hm⟩
  have hy:=Bt hx h
  refine hJ _ _ h ?_
  clear hJ J hbe hx h jr
  replace HX:=zh (HX.out.later hy)
  replace FA:=zh (FA.out.later hy)
  replace FB:=zh (FB.out.later hy)
  replace GX:=zh (GX.out.later hy)
  replace GY:=zh (GY.out.later hy)
  replace F1:=zh (F1.out.later hy)
  replace F2:=zh (F2.out.later hy)
  replace F3:=zh (F3.out.later hy)
  replace F4:=zh (F4.out.later hy)
  replace HB:=zh (Bt HB.out hy)
  clear hy
  have F5:=zh hm
  clear hm
  repeat (first|(apply wk_skip;(rfl);(rfl);(rfl);(intro J hJ;go_simp;(with_reducible refine hJ _ ?_);clear hJ J))|(apply wk_len;(rfl);(rfl);(rfl);(rfl);(exact zk);(intro J hJ;go_simp;(with_reducible refine hJ _ ?_);clear hJ J))|(apply wk_pure;(rfl);(rfl);(intro J hJ;go_simp;(with_reducible refine hJ _ ?_);clear hJ J))|(apply wk_load;(rfl);(rfl);(rfl);(rfl);(intro J hJ;go_simp;(with_reducible refine hJ _ ?_);clear hJ J;try go_simp)))
  refine wk_ext rfl rfl (fun wc hbc J hJ=>?_);go_simp
  have z2:Below u8.heap.size u8 wc:=belA
  refine hJ _ _ belA ?_
  clear hJ J
  have hbx:=ah.new wc #[.slice ba na da,.slice bb nb db,.slice b1 n1 d1,.slice b2 n2 d2,.slice b3 n1 d3,.slice b4 n4 d4,.slice b5 n5 d5,.slice bb nb db] 43
  refine wk_fin [_] rfl (fun wf hbf=>?_)
  have zf:Below u8.heap.size u8 wf:=Bt (Bt z2 belA) hbf
  have X:=hbx.later hbf
  go_wp2_with fail
  go_ret
  exact ⟨_,rfl,Bt HB.out zf,wc.heap.size,rfl,X.lt,⟨_,_,_,_,_,_,(X.cell 0).trans rfl,(X.cell 1).trans rfl,FA.out.later zf,FB.out.later zf⟩,⟨_,_,_,_,_,_,(X.cell 2).trans rfl,(X.cell 3).trans rfl,F1.out.later zf,F2.out.later zf⟩,⟨_,_,_,_,_,_,(X.cell 4).trans rfl,(X.cell 5).trans rfl,F3.out.later zf,F4.out.later zf⟩,⟨_,_,_,_,_,_,(X.cell 6).trans rfl,(X.cell 7).trans rfl,F5.out.later zf,FB.out.later zf⟩⟩
end Go.Proofs.verdigrislaw05
namespace Go.Proofs.verdigrislaw05
open Go Go.RowKit Go.SW Go.Num Go.Mem Go.Proofs Go.Dec Go.dF Go.Proofs.matrix Go.Proofs.aI
def PrC (w:World) (T:Value) (MA MB M1 M2 M4 M5:List (List Fr)):Prop:=∀ W,Below w.heap.size w W→Calls Tryz.prog 20 #[T] W (fun e w'=>∃ v',e= .returned v'∧Below W.heap.size W w'∧Pairs w' v' MA MB M1 M2 M4 M5)
theorem maR_sl {w:World} {v:Value} {m:List (List Fr)} (h:MaR w v m):∃ a n c,v= .slice a n c:=by
 obtain ⟨a,cap,h, -⟩:=h
 exact ⟨a,_,cap,h⟩
theorem pairs_ok (r c r1 c1:Int) (A B v v1:Value) (mA mB:List (List Fr)) (w:World) (hr:0≤r∧r≤255) (hc:0≤c∧c≤255) (hr1:0≤r1∧r1≤255) (hc1:0≤c1∧c1≤255) (hA:MaR w A mA) (hB:MaR w B mB) (hv:jw w v) (hv1:jw w v1) :
  ∃ M1 M2 M4 M5,(Little M1∧Little M2∧Little M4∧Little M5)∧PrC w (.agg #[A,B,.int .u8 r,.int .u8 c,v,.int .u8 r1,.int .u8 c1,v1]) (pE mA) (pE mB) M1 M2 M4 M5:=by
 obtain ⟨G,hG⟩:=DrG.of r c hv
 obtain ⟨G1,hG1⟩:=DrG.of r1 c1 hv1
 obtain ⟨G2,hG2⟩:=DrG.of c c1 hv1
 obtain ⟨n,hn⟩:∃ n:Nat,1+r%4=(n:Int):=⟨(1+r%4).toNat,by omega⟩
 obtain ⟨k,hk⟩:∃ n:Nat,1+c%4=(n:Int):=⟨(1+c%4).toNat,by omega⟩
 obtain ⟨m,hm⟩:∃ n:Nat,1+r1%4=(n:Int):=⟨(1+r1%4).toNat,by omega⟩
 obtain ⟨p,hp⟩:∃ n:Nat,1+c1%4=(n:Int):=⟨(1+c1%4).toNat,by omega⟩
 have n1:n≤4:=by omega
 have k1:k≤4:=by omega
 have m1:m≤4:=by omega
 have p1:p≤4:=by omega
 have fs:∀ i j,Sm (G (4*i+j)):=fun i j=>hG.1 _
 have gs:∀ i j,Sm (G1 (4*i+j)):=fun i j=>hG1.1 _
 have ks:∀ i j,Sm (G2 (4*i+j)):=fun i j=>hG2.1 _
 refine ⟨(mkR n k fun i j=>G (4*i+j)).fr,(mkR m p fun i j=>G1 (4*i+j)).fr,(mkR k p fun i j=>G2 (4*i+j)).fr,(mkR n n fun i j=>G (4*i+j)).fr,
  ⟨(little_mk n1 k1 fs).1,(little_mk m1 p1 gs).1,(little_mk k1 p1 ks).1,(little_mk n1 n1 fs).1⟩,fun W hW=>?_⟩
 exact pairs_main r c r1 c1 A B v v1 _ _ n m k n _ _ _ _ _ _ W (maR_sl hA) (maR_sl hB) (hv.later hW) (hv1.later hW)
  (zh fun W2 h2=>own_ok A mA W2 (hA.later (Bt hW h2)))
  (zh fun W2 h2=>own_ok B mB W2 (hB.later (Bt hW h2)))
  (zh fun W2 h2=>mat_G (G:=G) hr hc hv n k hn hk _ (fun W hW=>sized_G hG hv n k n1 k1 W hW) W2 (Bt hW h2))
  (zh fun W2 h2=>mat_G (G:=G1) hr1 hc1 hv1 m p hm hp _ (fun W hW=>sized_G hG1 hv1 m p m1 p1 W hW) W2 (Bt hW h2))
  (zh fun W2 h2=>mat_G (G:=G2) hc hc1 hv1 k p hk hp _ (fun W hW=>sized_G hG2 hv1 k p k1 p1 W hW) W2 (Bt hW h2))
  (zh fun W2 h2=>square_G (c:=c) (G:=G) hr hv n hn _ (fun W hW=>sized_G hG hv n n n1 n1 W hW) W2 (Bt hW h2))
end Go.Proofs.verdigrislaw05
namespace Go.Proofs.aI
open Go Go.RowKit Go.SW Go.Num Go.Mem Go.Proofs Go.Dec Go.dF Go.Proofs.aL Go.Proofs.matrix
theorem okL_yes {l:List Fr} (h:gN l=0):Vo l=true:=by rw [Lg,h];rfl
theorem okL_no {l:List Fr} (h:¬ gN l=0):Vo l=false:=by rw [Lg];simpa using h
theorem OX (v vl:Value) (m:List (List Fr)) (l L:List Fr) (T:TypeId) (w:World) (h:aP w v m) (hl:gH w T vl l) (hf:Zu m) (hk:kW m=false) :
  Calls Tryz.prog 30 #[v,vl] w (LisPost w 50 L):=by
 have HC:=zh (Right_ok v m w h hf)
 rw [hk] at HC
 obtain ⟨a,cap,rfl⟩:=aP.sl h
 obtain ⟨al,cl,rfl, -⟩:=hl.read
 clear h hk hl
 go_enter Tryz.func30,Tryz.ntmps30
 go_wp2_with fail
 refine HC.out.mono ?_
 rintro e v1 ⟨rfl,hc1⟩
 go_wp2_with fail
 go_ret2
 exact LisPost.no hc1 zd
theorem JY (v vl:Value) (m:List (List Fr)) (l L:List Fr) (T:TypeId) (w:World) (h:aP w v m) (hl:gH w T vl l) (fl:∀ x∈l,Fits x) (hk:kW m=true) (hc:¬ gN l=0) :
  Calls Tryz.prog 30 #[v,vl] w (LisPost w 20 L):=by
 have HC:=zh (Right_ok v m w h (fits_RM hk))
 rw [hk] at HC
 have HL:=zh (fun W (hW:Below w.heap.size w W)=>Yn vl l T W (hl.later hW) fl)
 rw [okL_no hc] at HL
 obtain ⟨a,cap,rfl⟩:=aP.sl h
 obtain ⟨al,cl,rfl, -⟩:=hl.read
 clear h hk hl hc fl
 go_enter Tryz.func30,Tryz.ntmps30
 go_wp2_with fail
 refine HC.out.mono ?_
 rintro e v1 ⟨rfl,hc1⟩
 go_wp2_with fail
 refine (HL.out _ hc1).mono ?_
 rintro e v2 ⟨rfl,hc2⟩
 go_wp2_with fail
 go_ret2
 exact LisPost.no (Bt hc1 hc2) zd
theorem OY (v vl:Value) (m:List (List Fr)) (l L:List Fr) (T:TypeId) (w:World) (h:aP w v m) (hl:gH w T vl l) (fl:∀ x∈l,Fits x) (hk:kW m=true) (hc:gN l=0) (hne:l.length≠(m.headD []).length) :
  Calls Tryz.prog 30 #[v,vl] w (LisPost w 2 L):=by
 have HC:=zh (Right_ok v m w h (fits_RM hk))
 rw [hk] at HC
 have HL:=zh (fun W (hW:Below w.heap.size w W)=>Yn vl l T W (hl.later hW) fl)
 rw [okL_yes hc] at HL
 have k1:=(okM_parts hk).1
 obtain ⟨ba,vL,OI,a0,cap0,rfl,CY,zZ⟩:=aP.top h zo
 obtain ⟨al,cl,rfl, -⟩:=hl.read
 generalize (m.headD []).length=x at *
 have h0:0<m.length:=by omega
 generalize m.length=na at *
 generalize hy:l.length=y at *
 have hd:((y:Int) != (x:Int))=true:=by simp;omega
 have hd2:decide ((y:Int)=(x:Int))=false:=decide_eq_false zo
 clear h hk hl hc k1 hne fl hy
 go_enter Tryz.func30,Tryz.ntmps30
 go_wp2_with fail
 refine HC.out.mono ?_
 rintro e v1 ⟨rfl,hc1⟩
 go_wp2_with fail
 refine (HL.out _ hc1).mono ?_
 rintro e v2 ⟨rfl,hc2⟩
 have hw2:Below w.heap.size w v2:=Bt hc1 hc2
 have c1:=(hw2.cell (p:=⟨ba,vL,none⟩) CY).trans zZ
 have l1:ba<v2.heap.size:=Nat.lt_of_lt_of_le CY hw2.size
 clear zZ
 go_wp2_with fail
 go_ret2
 exact LisPost.no hw2 zd
theorem Apply_any (v vl:Value) (m:List (List Fr)) (l:List Fr) (T:TypeId) (w:World) (h:aP w v m) (hl:gH w T vl l) (hf:Zu m) (fl:∀ x∈l,Fits x) :
  Calls Tryz.prog 30 #[v,vl] w (LisPost w (Yg m l) (ay8 m l)):=by
 unfold Yg
 cases hk:kW m with
 | false=>rw [if_neg zi];exact OX v vl m l _ T w h hl hf hk
 | true =>
  rw [if_pos rfl]
  by_cases hc:gN l=0
  ·rw [if_pos hc]
   by_cases hn:l.length=(m.headD []).length
   ·rw [if_pos hn]
    obtain ⟨e1,o1⟩:=yL hk
    obtain ⟨e2,o2⟩:=ab1 hc
    have hlen:(l.map qF).length=l.length:=List.length_map _
    rw [← hn,← hlen] at o1
    refine (aI.Apply_ok v vl (Cv m) (l.map qF) T w (e1 ▸ h) (e2 ▸ hl) o1 o2).mono fun e w' hp=>?_
    rcases hp with ⟨h1,vo,rfl,h2,h3⟩|⟨h1,rfl,h2⟩
    ·rw [show (Yf m l).all iU=true from h1,if_pos rfl]
     exact ⟨h2,vo,rfl,fun _=>h3,fun h=>absurd rfl h⟩
    ·rw [show (Yf m l).all iU=false from h1,if_neg zi]
     exact LisPost.no h2 zd
   ·rw [if_neg hn]
    exact OY v vl m l _ T w h hl fl hk hc hn
  ·rw [if_neg hc]
   exact JY v vl m l _ T w h hl fl hk hc
end Go.Proofs.aI
namespace Go.Proofs.verdigrislaw05
open Go Go.RowKit Go.SW Go.Num Go.Mem Go.Proofs Go.Dec Go.dF Go.Proofs.matrix Go.Proofs.aI
def LitL (l:List Fr):Prop:=l.length≤5∧∀ x∈l,x.n.size≤40∧x.d.size≤40
theorem LitL.fits {l:List Fr} (h:LitL l):∀ x∈l,aL.Fits x:=fun x hx=>by
 have:=h.2 x hx
 exact ⟨by omega,by omega⟩
def AnyL (W:World) (n:Nat) (k:Int) (R:List Fr) (e:Ending) (w':World):Prop:=∃ a c,e= .returned (.tuple #[.slice a n c,.int .i64 k])∧Below W.heap.size W w'∧gH w' 59 (.slice a n c) R
def orL (k:Int) (l:List Fr):List Fr:=if k=0 then l else []
theorem frs_none (w:World) (T:TypeId):gH w T (.slice none 0 0) []:=⟨none,0,rfl,Nat.le_refl _,by omega,fun _=>rfl,fun ad h=>by cases h⟩
theorem anyL_of {W w':World} {k:Int} {l:List Fr} {n:Nat} {e:Ending} (h:LisPost W k l e w') (hn:(orL k l).length=n):AnyL W n k (orL k l) e w':=by
 obtain ⟨h1,v,rfl,h2,h3⟩:=h
 subst hn
 unfold orL
 by_cases hk:k=0
 ·rw [if_pos hk]
  obtain ⟨a,c,rfl,hr⟩:=h2 hk
  exact ⟨a,c,rfl,h1,h2 hk⟩
 ·rw [if_neg hk]
  rw [h3 hk]
  exact ⟨none,0,rfl,h1,frs_none w' _⟩
def GivL (w:World) (f:FuncId) (args:Array Value) (n:Nat) (L:List Fr):Prop:=∀ W,Below w.heap.size w W→Calls Tryz.prog f args W (fun e w'=>∃ a c,e= .returned (.slice a n c)∧Below W.heap.size W w'∧gH w' 59 (.slice a n c) L)
theorem GivL.from {w w':World} {f:FuncId} {args:Array Value} {n:Nat} {L:List Fr} (h:GivL w f args n L) (hb:Below w.heap.size w w'):GivL w' f args n L:=fun W hW=>h W (Bt hb hW)
theorem cut_giv {v:Value} {l:List Fr} {w:World} (h:FrR w v l):GivL w 16 #[v] (capL l).length (capL l)∧LitL (capL l):=⟨fun W hW=>cutL_ok v l W (h.later hW),capL_len l,capL_small⟩
theorem list_giv {w:World} {r c:Int} {v:Value} (hv:jw w v) (n:Nat) (hn:n≤5):∃ L,(LitL L∧L.length=n)∧GivL w 17 #[.agg #[.int .u8 r,.int .u8 c,v],.int .i64 (n:Int)] n L:=by
 obtain ⟨G,hG⟩:=DrG.of r c hv
 refine ⟨((List.range n).map fun i=>G (5*i+3)).map Fr.of,⟨⟨by simp;omega,fun x hx=>?_⟩,by simp⟩,fun W hW=>list_G hG hv n hn W hW⟩
 obtain ⟨q,hq,rfl⟩:=List.mem_map.1 hx
 obtain ⟨i, -, rfl⟩:=List.mem_map.1 hq
 exact sm_short (hG.1 _)
theorem Pairs.at {w:World} {v:Value} {MA MB M1 M2 M4 M5:List (List Fr)} (h:Pairs w v MA MB M1 M2 M4 M5) (hL:∀ M,M∈[MA,MB,M1,M2,M4,M5]→Little M) :
  ∃ b o,v= .slice (some ⟨b,o,none⟩) 4 4∧b<w.heap.size∧∀ k,k<4→∃ a n c a' n' c' M N,w.cell? ⟨b,o+k*2,none⟩=some (.slice a n c)∧w.cell? ⟨b,o+k*2+1,none⟩=some (.slice a' n' c')∧aP w (.slice a n c) M∧aP w (.slice a' n' c') N∧Little M∧Little N∧M.length=n∧N.length=n':=by
 obtain ⟨b,rfl,hb,h0,h2,h4,h6⟩:=h
 refine ⟨b,0,rfl,hb,fun k hk=>?_⟩
 have key:∀ {M N:List (List Fr)},PairAt w b (k*2) M N→Little M→Little N→∃ a n c a' n' c' M N,w.cell? ⟨b,0+k*2,none⟩=some (.slice a n c)∧w.cell? ⟨b,0+k*2+1,none⟩=some (.slice a' n' c')∧aP w (.slice a n c) M∧aP w (.slice a' n' c') N∧Little M∧Little N∧M.length=n∧N.length=n':=fun {M N} h lm ln=>by
  obtain ⟨a,n,c,a',n',c',e1,e2,e3,e4⟩:=h
  rw [Nat.zero_add]
  refine ⟨a,n,c,a',n',c',M,N,e1,e2,e3,e4,lm,ln,?_,?_⟩
  ·obtain ⟨x,y,e⟩:=aP.sl e3
   simp only [Value.slice.injEq] at e
   exact e.2.1.symm
  ·obtain ⟨x,y,e⟩:=aP.sl e4
   simp only [Value.slice.injEq] at e
   exact e.2.1.symm
 have:k=0∨k=1∨k=2∨k=3:=by omega
 rcases this with rfl|rfl|rfl|rfl
 ·exact key h0 (hL _ zi) (hL _ zi)
 ·exact key h2 (hL _ zi) (hL _ zi)
 ·exact key h4 (hL _ zi) (hL _ zi)
 ·exact key h6 (hL _ zi) (hL _ zi)
end Go.Proofs.verdigrislaw05
namespace Go.Proofs.verdigrislaw05
open Go Go.RowKit Go.SW Go.Num Go.Mem Go.Proofs Go.Dec Go.dF Go.Proofs.matrix Go.Proofs.aI
theorem products_main (r c r1 c1:Int) (A B v v1 vl:Value) (MA MB M1 M2 M4 M5:List (List Fr)) (nc nd0:Nat) (LC LD:List Fr) (w:World) (hc:0≤c∧c≤255) (hd0:1+c%4=(nd0:Int)) (ht:qP.Pow w) (he:whole.Er w) (hA:∃ a n c,A= .slice a n c) (hB:∃ a n c,B= .slice a n c) (hv:jw w v) (hv1:jw w v1) (hl:∃ a n c,vl= .slice a n c)
  (hL:∀ M,M∈[MA,MB,M1,M2,M4,M5]→Little M)
  (HPR:Hid (PrC w (.agg #[A,B,.int .u8 r,.int .u8 c,v,.int .u8 r1,.int .u8 c1,v1]) MA MB M1 M2 M4 M5))
  (HCU:Hid (GivL w 16 #[vl] nc LC)) (hLC:LitL LC∧LC.length=nc)
  (HD:Hid (GivL w 17 #[.agg #[.int .u8 r1,.int .u8 c1,v1],.int .i64 (nd0:Int)] nd0 LD)) (hLD:LitL LD∧LD.length=nd0)
  (HLI:Hid (∀ n:Nat,n≤5→∃ L,(LitL L∧L.length=n)∧GivL w 17 #[.agg #[.int .u8 r1,.int .u8 c1,v1],.int .i64 (n:Int)] n L)) :
  Calls Tryz.prog 4 #[.agg #[A,B,.int .u8 r,.int .u8 c,v,.int .u8 r1,.int .u8 c1,v1],vl] w (fun e w'=>e= .returned (.bool true)∧Below w.heap.size w w'):=by
 have HP:=zh ht
 have HE:=zh he
 have HW:=zh (fun W (h1:qP.Pow W) (h2:whole.Er W)=>works_ok W h1 h2)
 have y1:c.tmod 4=c%4:=Int.tmod_eq_emod_of_nonneg hc.1
 have y3:IntKind.u8.wrap (c%4)=c%4:=by unfold IntKind.wrap;simp [IntKind.bits,IntKind.signed];omega
 have y5:IntKind.i64.wrap (c%4)=c%4:=by unfold IntKind.wrap;simp [IntKind.bits,IntKind.signed];omega
 have y7:IntKind.i64.wrap (1+c%4)=(nd0:Int):=by rw [← hd0];unfold IntKind.wrap;simp [IntKind.bits,IntKind.signed];omega
 obtain ⟨aA,nA,cA,rfl⟩:=hA
 obtain ⟨aB,nB,cB,rfl⟩:=hB
 obtain ⟨a0,nd,cap,rfl, -, -⟩:=hv
 obtain ⟨a1,nd1,aG6,rfl, -, -⟩:=hv1
 obtain ⟨al,nl,cl',rfl⟩:=hl
 have LL:=zh hL
 have LK:=zh hLC
 have LD':=zh hLD
 clear ht he hL hLC hLD hc hd0
 go_enter Tryz.func4,Tryz.ntmps4
 go_wp2_with fail
 obtain ⟨u0,EW,hz,HX⟩:=al1 w #[.slice aA nA cA,.slice aB nB cB,.int .u8 r,.int .u8 c,.slice a0 nd cap,.int .u8 r1,.int .u8 c1,.slice a1 nd1 aG6] 28
 rw [EW]
 have HB:=zh hz
 clear EW hz
 refine (HW.out _ (HP.out.later HB.out) (HE.out.later HB.out)).mono ?_
 rintro e u1 ⟨rfl,h⟩
 replace HX:=zh (HX.out.later h)
 replace HB:=zh (Bt HB.out h)
 clear h
 have cHX:=HX.out.cell
 have lHX:=HX.out.lt
 go_wp2_with fail
 clear cHX lHX
 refine (HPR.out _ HB.out).mono ?_
 rintro e u2 ⟨vp,rfl,h,hm⟩
 replace HX:=zh (HX.out.later h)
 replace HB:=zh (Bt HB.out h)
 clear h
 have FP:=zh hm
 clear hm
 obtain ⟨wz,EZ⟩:∃ y,y=u2:=⟨_,rfl⟩
 obtain ⟨bp,op,rfl,hbp,hpr⟩:=FP.out.at LL.out
 have HZ:Hid (Below w.heap.size w wz):=EZ ▸ HB
 have HV:=zh hpr
 have HBP:=zh hbp
 have HTX:=HX
 replace HP:=zh (HP.out.later HB.out)
 clear HPR HW HE LL FP HB hpr hbp HX
 rw [← EZ] at HP HTX HV HBP ⊢
 clear EZ
 replace HCU:=zh (HCU.out.from HZ.out)
 replace HD:=zh (HD.out.from HZ.out)
 replace HLI:Hid (∀ n:Nat,n≤5→∃ L,(LitL L∧L.length=n)∧GivL wz 17 #[.agg #[.int .u8 r1,.int .u8 c1,.slice a1 nd1 aG6],.int .i64 (n:Int)] n L):=zh fun n hn=>by
  obtain ⟨L,h1,h2⟩:=HLI.out n hn
  exact ⟨L,h1,h2.from HZ.out⟩
 go_wp2_with fail
 go_loopw [24] (fun iv wr=>∃ k:Nat,iv= .int .i64 (k:Int)∧k≤4∧Below wz.heap.size wz wr) (fun iv _=>4 - (intOf iv).toNat)
 case atStart=>exact ⟨0,rfl,by omega,Below.refl _ _⟩
 case round =>
  obtain ⟨k,rfl,hk,hb⟩:=hrel
  rcases Nat.lt_or_ge k 4 with hlt|hge
  ·obtain ⟨a,n,ca,a',n',ca',M,N,hh1,hh2,hM,hN,hLM,hLN,hn⟩:=HV.out k hlt
   have hc3:=(hb.cell (p:=⟨bp,op+k*2,none⟩) HBP.out).trans hh1
   have hc4:=(hb.cell (p:=⟨bp,op+k*2+1,none⟩) HBP.out).trans hh2
   have zD:bp<wr.heap.size:=Nat.lt_of_lt_of_le HBP.out hb.size
   have FM:=zh (hM.later hb)
   have FN:=zh (hN.later hb)
   have OW:=zh (fun v W (h:aP W v M)=>own_at h hLM hn.1)
   have OW2:=zh (fun v W (h:aP W v N)=>own_at h hLN hn.2)
   obtain ⟨LM,hLL,HLM⟩:=HLI.out n (hn.1 ▸ hLM.1)
   replace HLM:=zh HLM
   have LQ:=zh hLL
   obtain ⟨em,EI⟩:∃ y,vM M N=y:=⟨_,rfl⟩
   obtain ⟨R,ER⟩:∃ y,orM em (mulM M N)=y:=⟨_,rfl⟩
   obtain ⟨nr,EN⟩:∃ y,R.length=y:=⟨_,rfl⟩
   have I1:Hid (∀ v v' W,aP W v M→aP W v' N→qP.Pow W→Calls Tryz.prog 27 #[v,v'] W (AnyN W nr em R)):=zh fun v v' W h h' hp=>by
    have:=Mul_at v v' M N W h h' hp
    rw [EI] at this
    exact this.mono fun _ _ q=>ER ▸ any_of q (by rw [ER];exact EN)
   have I2:Hid (∀ v v' W,aP W v M→aP W v' N→Calls Tryz.prog 28 #[v,v'] W (AnyN W nr em R)):=zh fun v v' W h h'=>by
    have:=Mul_any v v' M N W h h' (little_fits hLM) (little_fits hLN)
    rw [EI] at this
    exact this.mono fun _ _ q=>ER ▸ any_of q (by rw [ER];exact EN)
   have HLF:=zh (little_fits hLM)
   replace HTX:=zh (HTX.out.later hb)
   have HB:=zh hb
   have hkk:(k:Int)<4:=by omega
   clear hh1 hh2 hM hN hLM hLN hn hb EI ER EN hLL
   go_wp2_with fail
   obtain ⟨wy,EW,hz,HY⟩:=al1 wr #[.slice a n ca,.slice a' n' ca'] 43
   rw [EW]
   replace HTX:=zh (HTX.out.later hz)
   replace FM:=zh (FM.out.later hz)
   replace FN:=zh (FN.out.later hz)
   replace HB:=zh (Bt HB.out hz)
   obtain ⟨bq,ebq⟩:∃ y,wr.heap.size=y:=⟨_,rfl⟩
   rw [ebq] at HY ⊢
   clear EW hz hc3 hc4 zD hkk ebq
   have Po:=zh (Below.refl wy.heap.size wy)
   refine aD [(.pure,0),(.read,1),(.pure,3),(.read,4),(.ext,2),(.ext,5),(.fin,6),(.fin,7)] zk zk zR zP ?_
   refine Wk.out ?_
   have cHY:=HY.out.cell
   have lHY:=HY.out.lt
   repeat (first|(apply wk_skip;(rfl);(rfl);(rfl);(intro J hJ;go_simp;(with_reducible refine hJ _ ?_);clear hJ J))|(apply wk_len;(rfl);(rfl);(rfl);(rfl);(exact zk);(intro J hJ;go_simp;(with_reducible refine hJ _ ?_);clear hJ J))|(apply wk_pure;(rfl);(rfl);(intro J hJ;go_simp;(with_reducible refine hJ _ ?_);clear hJ J))|(apply wk_load;(rfl);(rfl);(rfl);(rfl);(intro J hJ;go_simp;(with_reducible refine hJ _ ?_);clear hJ J;try go_simp)))
   clear cHY lHY
   refine wk_ext rfl rfl (fun we hbe J hJ=>?_)
   go_simp
   have hx:Below wy.heap.size wy we:=belA
   have jr:=zh (Bt HB.out hx)
   refine (OW.out _ _ (FM.out.later hx)).mono ?_
   rintro e u1 ⟨aa,da,rfl,h,hm⟩
   have hy:=Bt hx h
   refine hJ _ _ h ?_
   clear hJ J hbe hx h jr
   replace HTX:=zh (HTX.out.later hy)
   replace HY:=zh (HY.out.later hy)
   replace FM:=zh (FM.out.later hy)
   replace FN:=zh (FN.out.later hy)
   replace HB:=zh (Bt HB.out hy)
   replace Po:=zh (Bt Po.out hy)
   clear hy
   have FO:=zh hm
   clear hm
   have cHY:=HY.out.cell
   have lHY:=HY.out.lt
   repeat (first|(apply wk_skip;(rfl);(rfl);(rfl);(intro J hJ;go_simp;(with_reducible refine hJ _ ?_);clear hJ J))|(apply wk_len;(rfl);(rfl);(rfl);(rfl);(exact zk);(intro J hJ;go_simp;(with_reducible refine hJ _ ?_);clear hJ J))|(apply wk_pure;(rfl);(rfl);(intro J hJ;go_simp;(with_reducible refine hJ _ ?_);clear hJ J))|(apply wk_load;(rfl);(rfl);(rfl);(rfl);(intro J hJ;go_simp;(with_reducible refine hJ _ ?_);clear hJ J;try go_simp)))
   clear cHY lHY
   refine wk_ext rfl rfl (fun we hbe J hJ=>?_)
   go_simp
   have hx:Below u1.heap.size u1 we:=belA
   have jr:=zh (Bt HB.out hx)
   refine (OW2.out _ _ (FN.out.later hx)).mono ?_
   rintro e u2 ⟨ab,db,rfl,h,hm⟩
   have hy:=Bt hx h
   refine hJ _ _ h ?_
   clear hJ J hbe hx h jr
   replace HTX:=zh (HTX.out.later hy)
   replace HY:=zh (HY.out.later hy)
   replace FM:=zh (FM.out.later hy)
   replace FN:=zh (FN.out.later hy)
   replace FO:=zh (FO.out.later hy)
   replace HB:=zh (Bt HB.out hy)
   replace Po:=zh (Bt Po.out hy)
   clear hy
   have FQ:=zh hm
   clear hm
   have cHY:=HY.out.cell
   have lHY:=HY.out.lt
   repeat (first|(apply wk_skip;(rfl);(rfl);(rfl);(intro J hJ;go_simp;(with_reducible refine hJ _ ?_);clear hJ J))|(apply wk_len;(rfl);(rfl);(rfl);(rfl);(exact zk);(intro J hJ;go_simp;(with_reducible refine hJ _ ?_);clear hJ J))|(apply wk_pure;(rfl);(rfl);(intro J hJ;go_simp;(with_reducible refine hJ _ ?_);clear hJ J))|(apply wk_load;(rfl);(rfl);(rfl);(rfl);(intro J hJ;go_simp;(with_reducible refine hJ _ ?_);clear hJ J;try go_simp)))
   clear cHY lHY
   refine wk_fin [_,_] rfl (fun u3 hbf=>?_)
   have hy:Below u2.heap.size u2 u3:=belA
   replace HTX:=zh (HTX.out.later hy)
   replace HY:=zh (HY.out.later hy)
   replace FM:=zh (FM.out.later hy)
   replace FN:=zh (FN.out.later hy)
   replace FO:=zh (FO.out.later hy)
   replace FQ:=zh (FQ.out.later hy)
   replace HB:=zh (Bt HB.out hy)
   clear hy hbf Po
   go_wp2_with fail
   refine (I1.out _ _ _ FO.out FQ.out (HP.out.later HB.out)).mono ?_
   rintro e u4 ⟨a6,c6,rfl,h,hm⟩
   replace HTX:=zh (HTX.out.later h)
   replace HY:=zh (HY.out.later h)
   replace FM:=zh (FM.out.later h)
   replace FN:=zh (FN.out.later h)
   replace FO:=zh (FO.out.later h)
   replace FQ:=zh (FQ.out.later h)
   replace HB:=zh (Bt HB.out h)
   clear h
   have FI:=zh hm
   clear hm
   have cHY:=HY.out.cell
   have lHY:=HY.out.lt
   go_wp2_with fail
   clear cHY lHY
   refine (I2.out _ _ _ FM.out FN.out).mono ?_
   rintro e u5 ⟨a7,c7,rfl,h,hm⟩
   replace HTX:=zh (HTX.out.later h)
   replace HY:=zh (HY.out.later h)
   replace FM:=zh (FM.out.later h)
   replace FN:=zh (FN.out.later h)
   replace FO:=zh (FO.out.later h)
   replace FQ:=zh (FQ.out.later h)
   replace FI:=zh (FI.out.later h)
   replace HB:=zh (Bt HB.out h)
   clear h
   have FJ:=zh hm
   clear hm
   go_wp2_with fail
   refine (aI.xV _ _ R _ FI.out FJ.out).mono ?_
   rintro e u6 ⟨rfl,h⟩
   replace HTX:=zh (HTX.out.later h)
   replace HY:=zh (HY.out.later h)
   replace FM:=zh (FM.out.later h)
   replace FN:=zh (FN.out.later h)
   replace FO:=zh (FO.out.later h)
   replace FQ:=zh (FQ.out.later h)
   replace FI:=zh (FI.out.later h)
   replace FJ:=zh (FJ.out.later h)
   replace HB:=zh (Bt HB.out h)
   clear h
   have cHY:=HY.out.cell
   have lHY:=HY.out.lt
   go_wp2_with fail
   clear cHY lHY
   refine (aI.xV _ _ M _ FO.out FM.out).mono ?_
   rintro e u7 ⟨rfl,h⟩
   replace HTX:=zh (HTX.out.later h)
   replace HY:=zh (HY.out.later h)
   replace FM:=zh (FM.out.later h)
   replace FN:=zh (FN.out.later h)
   replace FO:=zh (FO.out.later h)
   replace FQ:=zh (FQ.out.later h)
   replace FI:=zh (FI.out.later h)
   replace FJ:=zh (FJ.out.later h)
   replace HB:=zh (Bt HB.out h)
   clear h
   have cHY:=HY.out.cell
   have lHY:=HY.out.lt
   go_wp2_with fail
   clear cHY lHY
   refine (aI.xV _ _ N _ FQ.out FN.out).mono ?_
   rintro e u8 ⟨rfl,h⟩
   replace HTX:=zh (HTX.out.later h)
   replace HY:=zh (HY.out.later h)
   replace FM:=zh (FM.out.later h)
   replace FN:=zh (FN.out.later h)
   replace FO:=zh (FO.out.later h)
   replace FQ:=zh (FQ.out.later h)
   replace FI:=zh (FI.out.later h)
   replace FJ:=zh (FJ.out.later h)
   replace HB:=zh (Bt HB.out h)
   clear h
   go_wp2_with fail
   have Po:=zh (Below.refl u8.heap.size u8)
   refine aD [(.pure,0),(.pure,2),(.read,3),(.pure,4),(.read,5),(.pure,6),(.pure,8),(.read,9),(.pure,10),(.pure,11),(.read,12),(.pure,13),(.pure,14),(.pure,15),(.pure,18),(.ext,1),(.ext,7),(.ext,16),(.pure,17)] zk zk zR zP ?_
   refine Wk.out ?_
   have cHTX:=HTX.out.cell
   have lHTX:=HTX.out.lt
   have cHY:=HY.out.cell
   have lHY:=HY.out.lt
   repeat (first|(apply wk_skip;(rfl);(rfl);(rfl);(intro J hJ;go_simp;(with_reducible refine hJ _ ?_);clear hJ J))|(apply wk_len;(rfl);(rfl);(rfl);(rfl);(exact zk);(intro J hJ;go_simp;(with_reducible refine hJ _ ?_);clear hJ J))|(apply wk_pure;(rfl);(rfl);(intro J hJ;go_simp;(with_reducible refine hJ _ ?_);clear hJ J))|(apply wk_load;(rfl);(rfl);(rfl);(rfl);(intro J hJ;go_simp;(with_reducible refine hJ _ ?_);clear hJ J;try go_simp)))
   clear cHTX lHTX
   clear cHY lHY
   refine wk_ext rfl rfl (fun we hbe J hJ=>?_)
   go_simp
   have hx:Below u8.heap.size u8 we:=belA
   have jr:=zh (Bt HB.out hx)
   refine (HCU.out _ jr.out).mono ?_
   rintro e u9 ⟨ac,cc,rfl,h,hm⟩
   have hy:=Bt hx h
   refine hJ _ _ h ?_
   clear hJ J hbe hx h jr
   replace HTX:=zh (HTX.out.later hy)
   replace HY:=zh (HY.out.later hy)
   replace FM:=zh (FM.out.later hy)
   replace FN:=zh (FN.out.later hy)
   replace FO:=zh (FO.out.later hy)
   replace FQ:=zh (FQ.out.later hy)
   replace FI:=zh (FI.out.later hy)
   replace FJ:=zh (FJ.out.later hy)
   replace HB:=zh (Bt HB.out hy)
   replace Po:=zh (Bt Po.out hy)
   clear hy
   have FC:=zh hm
   clear hm
   have cHTX:=HTX.out.cell
   have lHTX:=HTX.out.lt
   have cHY:=HY.out.cell
   have lHY:=HY.out.lt
   repeat (first|(apply wk_skip;(rfl);(rfl);(rfl);(intro J hJ;go_simp;(with_reducible refine hJ _ ?_);clear hJ J))|(apply wk_len;(rfl);(rfl);(rfl);(rfl);(exact zk);(intro J hJ;go_simp;(with_reducible refine hJ _ ?_);clear hJ J))|(apply wk_pure;(rfl);(rfl);(intro J hJ;go_simp;(with_reducible refine hJ _ ?_);clear hJ J))|(apply wk_load;(rfl);(rfl);(rfl);(rfl);(intro J hJ;go_simp;(with_reducible refine hJ _ ?_);clear hJ J;try go_simp)))
   clear cHTX lHTX
   clear cHY lHY
   refine wk_ext rfl rfl (fun we hbe J hJ=>?_)
   go_simp
   have hx:Below u9.heap.size u9 we:=belA
   have jr:=zh (Bt HB.out hx)
   refine (HLM.out _ jr.out).mono ?_
   rintro e u10 ⟨ad,cd,rfl,h,hm⟩
   have hy:=Bt hx h
   refine hJ _ _ h ?_
   clear hJ J hbe hx h jr
   replace HTX:=zh (HTX.out.later hy)
   replace HY:=zh (HY.out.later hy)
   replace FM:=zh (FM.out.later hy)
   replace FN:=zh (FN.out.later hy)
   replace FO:=zh (FO.out.later hy)
   replace FQ:=zh (FQ.out.later hy)
   replace FI:=zh (FI.out.later hy)
   replace FJ:=zh (FJ.out.later hy)
   replace FC:=zh (FC.out.later hy)
   replace HB:=zh (Bt HB.out hy)
   replace Po:=zh (Bt Po.out hy)
   clear hy
   have FD:=zh hm
   clear hm
   have cHTX:=HTX.out.cell
   have lHTX:=HTX.out.lt
   have cHY:=HY.out.cell
   have lHY:=HY.out.lt
   repeat (first|(apply wk_skip;(rfl);(rfl);(rfl);(intro J hJ;go_simp;(with_reducible refine hJ _ ?_);clear hJ J))|(apply wk_len;(rfl);(rfl);(rfl);(rfl);(exact zk);(intro J hJ;go_simp;(with_reducible refine hJ _ ?_);clear hJ J))|(apply wk_pure;(rfl);(rfl);(intro J hJ;go_simp;(with_reducible refine hJ _ ?_);clear hJ J))|(apply wk_load;(rfl);(rfl);(rfl);(rfl);(intro J hJ;go_simp;(with_reducible refine hJ _ ?_);clear hJ J;try go_simp)))
   clear cHTX lHTX
   clear cHY lHY
   refine wk_ext rfl rfl (fun we hbe J hJ=>?_)
   go_simp
   have hx:Below u10.heap.size u10 we:=belA
   have jr:=zh (Bt HB.out hx)
   refine (HD.out _ jr.out).mono ?_
   rintro e u11 ⟨ae,ce,rfl,h,hm⟩
   have hy:=Bt hx h
   refine hJ _ _ h ?_
   clear hJ J hbe hx h jr
   replace HTX:=zh (HTX.out.later hy)
   replace HY:=zh (HY.out.later hy)
   replace FM:=zh (FM.out.later hy)
   replace FN:=zh (FN.out.later hy)
   replace FO:=zh (FO.out.later hy)
   replace FQ:=zh (FQ.out.later hy)
   replace FI:=zh (FI.out.later hy)
   replace FJ:=zh (FJ.out.later hy)
   replace FC:=zh (FC.out.later hy)
   replace FD:=zh (FD.out.later hy)
   replace HB:=zh (Bt HB.out hy)
   replace Po:=zh (Bt Po.out hy)
   clear hy
   have FE:=zh hm
   clear hm
   have cHTX:=HTX.out.cell
   have lHTX:=HTX.out.lt
   have cHY:=HY.out.cell
   have lHY:=HY.out.lt
   repeat (first|(apply wk_skip;(rfl);(rfl);(rfl);(intro J hJ;go_simp;(with_reducible refine hJ _ ?_);clear hJ J))|(apply wk_len;(rfl);(rfl);(rfl);(rfl);(exact zk);(intro J hJ;go_simp;(with_reducible refine hJ _ ?_);clear hJ J))|(apply wk_pure;(rfl);(rfl);(intro J hJ;go_simp;(with_reducible refine hJ _ ?_);clear hJ J))|(apply wk_load;(rfl);(rfl);(rfl);(rfl);(intro J hJ;go_simp;(with_reducible refine hJ _ ?_);clear hJ J;try go_simp)))
   clear cHTX lHTX
   clear cHY lHY
   refine wk_nil (fun u12 hbf=>?_)
   have hy:Below u11.heap.size u11 u12:=belA
   replace HTX:=zh (HTX.out.later hy)
   replace HY:=zh (HY.out.later hy)
   replace FM:=zh (FM.out.later hy)
   replace FN:=zh (FN.out.later hy)
   replace FO:=zh (FO.out.later hy)
   replace FQ:=zh (FQ.out.later hy)
   replace FI:=zh (FI.out.later hy)
   replace FJ:=zh (FJ.out.later hy)
   replace FC:=zh (FC.out.later hy)
   replace FD:=zh (FD.out.later hy)
   replace FE:=zh (FE.out.later hy)
   replace HB:=zh (Bt HB.out hy)
   clear hy hbf Po
   obtain ⟨wq,EQ⟩:∃ y,y=u12:=⟨_,rfl⟩
   have xq:Hid (∀ j:Nat,j<3→∃ ax nx cx L,(∀ W,(Instr.index 49 (.agg #[.slice ac nc cc,.slice ad n cd,.slice ae nd0 ce]) (.int .i64 (j:Int))).run Tryz.prog W= .ok (.slice ax nx cx) W)∧gH wq 59 (.slice ax nx cx) L∧LitL L∧L.length=nx):=zh fun j hj=>by
    rw [EQ]
    have:j=0∨j=1∨j=2:=by omega
    rcases this with rfl|rfl|rfl
    ·exact ⟨ac,nc,cc,LC,fun W=>by kernel_rfl,FC.out,LK.out⟩
    ·exact ⟨ad,n,cd,LM,fun W=>by kernel_rfl,FD.out,LQ.out⟩
    ·exact ⟨ae,nd0,ce,LD,fun W=>by kernel_rfl,FE.out,LD'.out⟩
   replace HP:=zh (HP.out.later HB.out)
   have HBQ:=HB
   clear FC FD FE FI FJ FN FQ HB HLM HTX
   rw [← EQ] at HP HBQ FM FO HY ⊢
   clear EQ
   go_wp2_with fail
   go_loopw [89] (fun iv wr=>∃ k:Nat,iv= .int .i64 (k:Int)∧k≤3∧Below wq.heap.size wq wr) (fun iv _=>3 - (intOf iv).toNat)
   case atStart=>exact ⟨0,rfl,by omega,Below.refl _ _⟩
   case round =>
    obtain ⟨j,rfl,hj,hbi⟩:=hrel
    rcases Nat.lt_or_ge j 3 with hjlt|aQ2
    ·obtain ⟨ax,nx,cx,L,hix,hLx,hLit, -⟩:=xq.out j hjlt
     have FL:=zh (hLx.later hbi)
     replace FM:=zh (FM.out.later hbi)
     replace FO:=zh (FO.out.later hbi)
     replace HY:=zh (HY.out.later hbi)
     obtain ⟨ea,EA⟩:∃ y,Yg M L=y:=⟨_,rfl⟩
     obtain ⟨RL,ER⟩:∃ y,orL ea (ay8 M L)=y:=⟨_,rfl⟩
     obtain ⟨nl2,EN⟩:∃ y,RL.length=y:=⟨_,rfl⟩
     have A1:Hid (∀ v v' W,aP W v M→gH W 59 v' L→qP.Pow W→Calls Tryz.prog 29 #[v,v'] W (AnyL W nl2 ea RL)):=zh fun v v' W h h' hp=>by
      have:=App_at v v' M L _ W h h' hp
      rw [EA] at this
      exact this.mono fun _ _ q=>ER ▸ anyL_of q (by rw [ER];exact EN)
     have A2:Hid (∀ v v' W,aP W v M→gH W 59 v' L→Calls Tryz.prog 30 #[v,v'] W (AnyL W nl2 ea RL)):=zh fun v v' W h h'=>by
      have:=Apply_any v v' M L _ W h h' HLF.out hLit.fits
      rw [EA] at this
      exact this.mono fun _ _ q=>ER ▸ anyL_of q (by rw [ER];exact EN)
     have HB:=zh hbi
     have hjj:(j:Int)<3:=by omega
     clear hLx hLit hbi EA ER EN
     go_wp2_with fail
     clear hix hjj
     refine (A1.out _ _ _ FO.out FL.out (HP.out.later HB.out)).mono ?_
     rintro e u1 ⟨a8,c8,rfl,h,hm⟩
     replace FL:=zh (FL.out.later h)
     replace FM:=zh (FM.out.later h)
     replace FO:=zh (FO.out.later h)
     replace HY:=zh (HY.out.later h)
     replace HB:=zh (Bt HB.out h)
     clear h
     have FI:=zh hm
     clear hm
     have cHY:=HY.out.cell
     have lHY:=HY.out.lt
     go_wp2_with fail
     clear cHY lHY
     refine (A2.out _ _ _ FM.out FL.out).mono ?_
     rintro e u2 ⟨a9,c9,rfl,h,hm⟩
     replace FL:=zh (FL.out.later h)
     replace FM:=zh (FM.out.later h)
     replace FO:=zh (FO.out.later h)
     replace HY:=zh (HY.out.later h)
     replace FI:=zh (FI.out.later h)
     replace HB:=zh (Bt HB.out h)
     clear h
     have FJ:=zh hm
     clear hm
     go_wp2_with fail
     refine (aI.qO _ _ RL _ FI.out FJ.out).mono ?_
     rintro e u3 ⟨rfl,h⟩
     replace FL:=zh (FL.out.later h)
     replace FM:=zh (FM.out.later h)
     replace FO:=zh (FO.out.later h)
     replace HY:=zh (HY.out.later h)
     replace FI:=zh (FI.out.later h)
     replace FJ:=zh (FJ.out.later h)
     replace HB:=zh (Bt HB.out h)
     clear h
     go_wp2_with fail
     have hz:=HB.out
     go_roundw
     case rel=>exact ⟨j+1,by go_num,by omega,hz⟩
     case measure=>exact zM
    ·obtain rfl:j=3:=by omega
     have hz:=Bt HBQ.out hbi
     go_wp2_with fail
     go_roundw
     case rel=>exact ⟨k+1,by go_num,by omega,hz⟩
     case measure=>exact zM
  ·obtain rfl:k=4:=by omega
   go_wp2_with fail
   go_ret
   exact ⟨rfl,Bt HZ.out hb⟩
theorem products_ok (r c r1 c1:Int) (A B v v1 vl:Value) (mA mB:List (List Fr)) (l:List Fr) (w:World) (hr:0≤r∧r≤255) (hc:0≤c∧c≤255) (hr1:0≤r1∧r1≤255) (hc1:0≤c1∧c1≤255) (ht:qP.Pow w) (he:whole.Er w) (hA:MaR w A mA) (hB:MaR w B mB) (hv:jw w v) (hv1:jw w v1) (hl:FrR w vl l) :
  Calls Tryz.prog 4 #[.agg #[A,B,.int .u8 r,.int .u8 c,v,.int .u8 r1,.int .u8 c1,v1],vl] w (fun e w'=>e= .returned (.bool true)∧Below w.heap.size w w'):=by
 obtain ⟨M1,M2,M4,M5,⟨l1,l2,l4,l5⟩,hp⟩:=pairs_ok r c r1 c1 A B v v1 mA mB w hr hc hr1 hc1 hA hB hv hv1
 obtain ⟨nd0,hd0⟩:∃ n:Nat,1+c%4=(n:Int):=⟨(1+c%4).toNat,by omega⟩
 obtain ⟨LD,hLD,gLD⟩:=list_giv (r:=r1) (c:=c1) hv1 nd0 zo
 obtain ⟨gc,lc⟩:=cut_giv hl
 have el:∃ a n c,vl= .slice a n c:=by obtain ⟨a,cap,h, -⟩:=hl;exact ⟨a,_,cap,h⟩
 refine products_main r c r1 c1 A B v v1 vl (pE mA) (pE mB) M1 M2 M4 M5 _ nd0 (capL l) LD w hc hd0 ht he (maR_sl hA) (maR_sl hB) hv hv1 el ?_ (zh hp) (zh gc) ⟨lc,rfl⟩ (zh gLD) hLD (zh fun n hn=>list_giv hv1 n hn)
 intro M hM
 simp only [List.mem_cons,List.not_mem_nil,or_false] at hM
 rcases hM with rfl|rfl|rfl|rfl|rfl|rfl
 ·exact own_little mA
 ·exact own_little mB
 ·exact l1
 ·exact l2
 ·exact l4
 ·exact l5
end Go.Proofs.verdigrislaw05
namespace Go.Proofs.YtfhappbmgghgdaaGreatDoor
open Go Go.ChangeShapes Go.WideShapes Go.RowKit Go.Proofs Go.Proofs.verdigrislaw05 Go.dF
theorem open_frs {H:Type} {enc:TypeId × Value→H} {W:World} {b0 base:Nat} {sp:Nat→Bool} {held:Bool} {v:Value} {d:DataW H} {p:List MemPlace}
  (hval:Value.okWide Tryz.prog W .any b0 29 v) (h:DataW.Trod enc Tryz.prog W base sp held 29 v d p):∃ l,FrR W v l:=by
 obtain ⟨a0,n0,cap0,rfl⟩:=okWide_slice Tryz.underlying29 hval
 obtain ⟨fuel,hf⟩:=h
 obtain ⟨a,n,cap,l,e,h1⟩:=trod_frs hf
 replace e:[Value.slice a0 n0 cap0]=[.slice a n cap]:=e
 simp only [List.cons.injEq,and_true] at e
 rw [e]
 exact ⟨l,h1⟩
end Go.Proofs.YtfhappbmgghgdaaGreatDoor
