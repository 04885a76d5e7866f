/- Lemmas for the proof. No condition. -/
import Derived.Test.YtddblpggomphpaaGreatDoorXB01
import Derived.Test.YtddblpggomphpaaGreatDoorXB13
set_option linter.unusedVariables false
set_option linter.unusedSimpArgs false
set_option maxRecDepth 100000
set_option maxHeartbeats 16000000
namespace Go.Proofs.aI
open Go Go.RowKit Go.SW Go.Num Go.Mem Go.Proofs Go.Dec Go.dB Go.Proofs.aG Go.Proofs.matrix
def Gw (m:RM) (n i j:Nat):Rat:=if (i+j)%2=1 then -(bW (n - 1) (bL m j i) / bW n m) else bW (n - 1) (bL m j i) / bW n m
def Mi (m:RM) (n:Nat):RM:=(List.range n).map fun i=>(List.range n).map (Gw m n i)
theorem Xd {m:RM} {n i j:Nat} (hm:m.length=n) (hr:∀ r∈m,r.length=n∧∀ q∈r,eP 67 q) (hi:i<n) (hj:j<n) (n4:n≤4) (hd:bW n m≠0):QM (Gw m n i j):=by
 obtain ⟨n,rfl⟩:∃ k,n=k+1:=⟨n - 1,by omega⟩
 have h1:=nV n _ (fD hr (by omega:j<m.length) hm hi).1 (fD hr (by omega:j<m.length) hm hi).2
 have h2:=nV (n+1) m hm hr
 have l1:=JO (n:=n) zo
 have l2:=JO (n:=n+1) zo
 have h3:eP 100000000 (bW n (bL m j i) / bW (n+1) m):=by
  rw [Rat.div_def]
  exact (qU (h1.mono (show MB n≤1200000 by omega)) ((Fu h2 hd).mono zo)).mono zo
 unfold Gw QM
 rw [Nat.add_sub_cancel]
 split
 ·exact qR h3
 ·exact h3
theorem MC (v:Value) (m:RM) (n:Nat) (w:World) (h:bO w v m.fr) (hok:m.ok n) (hm:m.length=n) (hd:bW n m≠0) :
  Calls Tryz.prog 41 #[v] w (aS w (if gX (Mi m n) then 0 else 6) (Mi m n).fr):=by
 obtain ⟨i0,hi0,hz0,hz1,hz2⟩:=info_parts Bl
 obtain ⟨i1,hi1,hy0,hy1,hy2⟩:=info_parts Aa
 obtain ⟨m1,m4,n1,n4,hrows⟩:=id hok
 have hr:∀ r∈m,r.length=n∧∀ q∈r,eP 67 q:=fun r hr=>⟨(hrows r hr).1,szM hok r hr⟩
 have hrl:∀ r∈m,r.length=n:=fun r h=>(hr r h).1
 have RI:=zh (uI v m _ w h hok)
 have IN:=zh (fun W (hW:Below w.heap.size w W)=>tZ v m W (h.later hW) (fun r hr=>(hrows r hr).2) ⟨by omega,fun r hr=>by rw [(hrows r hr).1];omega⟩)
 have MD:=zh (fun x W (hx:mX W x m)=>yO n n4 x m W hx hm hr)
 have WO:Hid (∀ i,i<n→∀ j,j<n→∀ x W,mX W x m→Calls Tryz.prog 102 #[x,.int .i64 (j:Int),.int .i64 (i:Int)] W (Ad W (bL m j i))):=zh fun i hi j hj x W hx=>Al x m n j i W hx hrl zo hi zo n4
 have hn':n - 1+1=n:=by omega
 have hwr:∀ i,i<n→∀ j,j<n→(bL m j i).length=n - 1∧∀ r∈bL m j i,r.length=n - 1∧∀ q∈r,eP 67 q:=fun i hi j hj=>fD (n:=n - 1) (fun r h=>by rw [hn'];exact hr r h) zo zo zo
 have MI:Hid (∀ i,i<n→∀ j,j<n→∀ x W,mX W x (bL m j i)→Calls Tryz.prog 100 #[x] W (dH W (bW (n - 1) (bL m j i)))):=zh fun i hi j hj x W hx=>yO (n - 1) zo x _ W hx (hwr i hi j hj).1 (hwr i hi j hj).2
 have l1:=JO (n:=n - 1) zo
 have l2:=JO (n:=n) n4
 have OV:Hid (∀ i,i<n→∀ j,j<n→∀ x y W,Ra W x (bW (n - 1) (bL m j i))→Ra W y (bW n m)→Calls Tryz.prog 101 #[x,y] W (dH W (bW (n - 1) (bL m j i) / bW n m))):=zh fun i hi j hj x y W hx hy=>Oj x y _ _ W hx hy ((nV _ _ (hwr i hi j hj).1 (hwr i hi j hj).2).mono zo) ((nV n m hm hr).mono zo) hd
 have HO:Hid (∀ i j,(i+j)%2=1→Gw m n i j= -(bW (n - 1) (bL m j i) / bW n m)):=zh fun i j h=>by unfold Gw;rw [if_pos h]
 have HE:Hid (∀ i j,(i+j)%2≠1→Gw m n i j=bW (n - 1) (bL m j i) / bW n m):=zh fun i j h=>by unfold Gw;rw [if_neg h]
 have OU:=zh (fun v W h=>Ol v (Mi m n) W h (fun r hr' q hq=>by
  obtain ⟨i,hi,rfl⟩:=List.mem_map.1 hr'
  obtain ⟨j,hj,rfl⟩:=List.mem_map.1 hq
  exact Xd hm hr (List.mem_range.1 hi) (List.mem_range.1 hj) n4 hd) ⟨by unfold Mi;simp;omega,fun r hr'=>by
  obtain ⟨i,hi,rfl⟩:=List.mem_map.1 hr'
  simp;omega⟩)
 generalize (if gX (Mi m n) then (0:Int) else 6)=er at *
 rw [show Mi m n=(List.range n).map fun i=>(List.range n).map (Gw m n i) from rfl] at OU ⊢
 obtain ⟨a,cap,rfl, -, -, hread⟩:=bO.read h
 have hfl:m.fr.length=n:=by rw [RM.fr,List.length_map,hm]
 obtain ⟨b,off,a0,c0,rfl,lb,cell0, -⟩:=hread 0 zo
 have e0:(m.fr[0]'zo).length=n:=by
  simp only [RM.fr,List.getElem_map,List.length_map]
  exact (hr _ (List.getElem_mem _)).1
 rw [e0] at cell0
 rw [hfl] at RI IN ⊢
 have hdn:0<(bW n m).num.natAbs:=by
  refine Nat.pos_of_ne_zero fun e=>hd (Rat.num_eq_zero.1 zo)
 have HMN:=zh hm
 clear hread h hok e0 hfl hrows hr hrl hwr l1 l2 hd hm
 obtain ⟨D,ED⟩:∃ D,bW n m=D:=⟨_,rfl⟩
 obtain ⟨F,EF⟩:∃ F,Gw m n=F:=⟨_,rfl⟩
 obtain ⟨X,EX⟩:∃ X:Nat→Nat→Rat,Hid ((fun i j=>bW (n - 1) (bL m j i))=X):=⟨_,zh rfl⟩
 have ex:∀ i j,bW (n - 1) (bL m j i)=X i j:=fun i j=>by rw [← EX.out]
 simp only [ED,EF,ex] at MD MI OV HO HE OU hdn ⊢
 clear ED EF EX ex
 have h0n:0<n:=by omega
 go_enter Tryz.func41,Tryz.ntmps41
 go_wp2_with fail
 refine RI.out.mono ?_
 rintro e w1 ⟨rfl,hb1⟩
 have ck:=(hb1.cell (p:=⟨b,off,none⟩) lb).trans cell0
 have l2:b<w1.heap.size:=Nat.lt_of_lt_of_le lb hb1.size
 have g1:((n:Int) != (n:Int))=false:=by simp
 go_wp2_with fail
 refine (IN.out _ hb1).mono ?_
 rintro e w2 ⟨v,rfl,hb2,hmv⟩
 obtain ⟨ax,cx,e⟩:=tO.slice hmv
 rw [HMN.out] at e
 subst e
 have h2:=Bt hb1 hb2
 clear ck l2 cell0 lb
 go_wp2_with fail
 refine (MD.out _ _ hmv).mono ?_
 rintro e w3 ⟨v,rfl,hb3,hra⟩
 obtain ⟨bn,pn,ln,cn,bd,pd,ld,cd,rfl,IU, -⟩:=id hra
 have hl:=IU.nm.1.VP hdn
 have HM:=zh (hmv.later hb3)
 have HB3:=zh (Bt h2 hb3)
 have hl0:((ln:Int) == 0)=false:=by simp;omega
 have xP:=zh hra
 clear IU hra hb1 hb2 hb3 h2 hmv RI IN MD hdn hl
 go_wp2_with fail
 have WB:Below w3.heap.size w3 (w3.alloc (.cells #[.bool bn,.slice pn ln cn,.bool bd,.slice pd ld cd] 152)):=aA
 have hx5:=aB.new w3 #[.bool bn,.slice pn ln cn,.bool bd,.slice pd ld cd] 152
 obtain ⟨w4,E4⟩:∃ y,w3.alloc (.cells #[.bool bn,.slice pn ln cn,.bool bd,.slice pd ld cd] 152)=y:=⟨_,rfl⟩
 rw [E4] at WB hx5 ⊢
 obtain ⟨p5,E5⟩:∃ y,w3.heap.size=y:=⟨_,rfl⟩
 rw [E5] at hx5 ⊢
 have X5:=zh hx5
 replace HM:=zh (HM.out.later WB)
 replace xP:=zh (xP.out.later WB)
 have YC:=zh (Bt HB3.out WB)
 clear E4 E5 hx5 WB HB3
 go_loopw [6,7] (fun ov iv wr=>∃ k:Nat,iv= .int .i64 (k:Int)∧k≤n∧Hid (aX wr w4.heap.size 154 1 jU ov ((List.range k).map fun i=>(List.range n).map (F i)))∧Below w4.heap.size w4 wr) (fun _ iv _=>n - (intOf iv).toNat)
 case atStart=>exact ⟨0,rfl,by omega,zh (aX.nil _ _ _ _ _),Below.refl _ _⟩
 case round =>
  obtain ⟨k,rfl,hk,HG,hb⟩:=hrel
  rcases Nat.lt_or_ge k n with hlt|hge
  ·obtain ⟨wo,rfl⟩:∃ wo:World,wo=wr:=⟨_,rfl⟩
   obtain ⟨ov,cv,rfl⟩:=HG.out.at (n:=k) zi
   have J7:=zh hb
   clear hb
   go_wp2_with fail
   go_loopw [8,9] (fun rv jv wr=>∃ j:Nat,jv= .int .i64 (j:Int)∧j≤n∧Hid (aX wr wo.heap.size 152 4 pK rv ((List.range j).map (F k)))∧Below wo.heap.size wo wr) (fun _ jv _=>n - (intOf jv).toNat)
   case atStart=>exact ⟨0,rfl,by omega,zh (aX.nil _ _ _ _ _),Below.refl _ _⟩
   case round =>
    obtain ⟨j,rfl,hj,HR,hbi⟩:=hrel
    rcases Nat.lt_or_ge j n with hjlt|SY
    ·obtain ⟨rv,rc,rfl⟩:=HR.out.at (n:=j) zi
     have hbw:=Bt J7.out hbi
     have x5:=X5.out.later hbw
     have c5:=x5.cell
     have l5:=x5.lt
     have HM':=zh (HM.out.later hbw)
     have HD':=zh (xP.out.later hbw)
     have EO:=zh hbi
     clear hbi hbw x5
     go_wp2_with fail
     refine aC [(.pure,0),(.pure,1),(.pure,2),(.read,5),(.ext,3),(.ext,4),(.ext,6),(.alloc #[.bool false,.slice none 0 0,.bool false,.slice none 0 0] 152,7),(.fin,8)] zk zk zR zP ?_;refine Wk.out ?_;(iterate 4 (first|(apply jE;(rfl);(rfl);(rfl);(intro J hJ;go_simp;(with_reducible refine hJ _ ?_);clear hJ J))|(apply lg;(rfl);(rfl);(rfl);(rfl);(exact zk);(intro J hJ;go_simp;(with_reducible refine hJ _ ?_);clear hJ J))|(apply ji;(rfl);(rfl);(intro J hJ;go_simp;(with_reducible refine hJ _ ?_);clear hJ J))|(apply jF;(rfl);(rfl);(rfl);(rfl);(intro J hJ;go_simp;(with_reducible refine hJ _ ?_);clear hJ J;try go_simp))))
     refine jY rfl rfl (fun wa hba J hJ=>?_);go_simp
     have z1:Below wr.heap.size wr wa:=aA
     refine (WO.out k hlt j hjlt _ _ (HM'.out.later z1)).mono ?_
     rintro e wb ⟨v,rfl,hbb,hmw⟩
     obtain ⟨qa,qc,rfl⟩:=tO.slice hmw
     have HW:=zh hmw
     have z2:=Bt z1 hbb
     refine hJ _ _ hbb ?_
     clear hJ J hmw hba hbb
     refine jY rfl rfl (fun wc hbc J hJ=>?_);go_simp
     have z3:Below wb.heap.size wb wc:=aA
     refine (MI.out k hlt j hjlt _ _ (HW.out.later z3)).mono ?_
     rintro e wd ⟨v,rfl,hbd,hrt⟩
     obtain ⟨u1,u2,u3,u4,u5,u6,u7,u8,rfl, -, -⟩:=id hrt
     have HT:=zh hrt
     have z4:=Bt (Bt z2 z3) hbd
     refine hJ _ _ hbd ?_
     clear hJ J hrt hbc hbd z1 z2 z3 HW
     refine jY rfl rfl (fun we hbe J hJ=>?_);go_simp
     have z5:Below wd.heap.size wd we:=aA
     have z6:=Bt z4 z5
     refine (OV.out k hlt j hjlt _ _ _ (HT.out.later z5) (HD'.out.later z6)).mono ?_
     rintro e wf ⟨v,rfl,hbf,hrs⟩
     obtain ⟨v1,v2,v3,v4,v5,v6,v7,v8,rfl, -, -⟩:=id hrs
     have HS:=zh hrs
     have z7:=Bt z6 hbf
     refine hJ _ _ hbf ?_
     clear hJ J hrs hbe hbf z4 z5 z6 HT HM' HD'
     refine Hy rfl (fun q wg hbg hq1 hq2 hq3 J2=>?_);go_simp
     replace J2:aB wg q #[.bool false,.slice none 0 0,.bool false,.slice none 0 0] 152:=J2
     refine Ak [_] rfl (fun wh QH=>?_)
     have z8:=Bt (Bt z7 hbg) QH
     have Y9:=J2.later QH
     have c9:=Y9.cell
     have l9:=Y9.lt
     have f9:=Y9.free
     have hs:=Ra.kJ ((HS.out.later hbg).later QH) Y9 zd (.bool v1) (.slice v2 v3 v4) (.bool v5) (.slice v6 v7 v8)
     have hQ:=(((Y9.set 0 (.bool v1)).set 1 (.slice v2 v3 v4)).set 2 (.bool v5)).set 3 (.slice v6 v7 v8)
     have hZ:=(((z8.setCell (p:=⟨q,0,none⟩) hq1 (.bool v1)).setCell (p:=⟨q,1,none⟩) hq1 (.slice v2 v3 v4)).setCell (p:=⟨q,2,none⟩) hq1 (.bool v5)).setCell (p:=⟨q,3,none⟩) hq1 (.slice v6 v7 v8)
     have Yv:=zh hs
     have HQ9:=zh hQ
     have HZ9:=zh hZ
     clear hbg QH J2 z7 z8 c5 l5 Y9 HS hs hQ hZ hq2 hq3
     go_upto_region 18 with fail
     clear c9 l9 f9
     obtain ⟨W9,EW⟩:∃ y,((((wh.setCell ⟨q,0,none⟩ (.bool v1)).setCell ⟨q,1,none⟩ (.slice v2 v3 v4)).setCell ⟨q,2,none⟩ (.bool v5)).setCell ⟨q,3,none⟩ (.slice v6 v7 v8))=y:=⟨_,rfl⟩
     rw [EW] at Yv HQ9 HZ9 ⊢
     have Q9:Hid (aB W9 q #[.bool v1,.slice v2 v3 v4,.bool v5,.slice v6 v7 v8] 152):=HQ9
     have ZW:=HZ9
     clear EW HQ9 HZ9
     have t2:((k:Int)+(j:Int)).tmod 2=((k:Int)+(j:Int))%2:=Int.tmod_eq_emod_of_nonneg zo
     have w2:IntKind.i64.wrap (((k:Int)+(j:Int))%2)=((k:Int)+(j:Int))%2:=by unfold IntKind.wrap;simp [IntKind.bits];omega
     have w3:IntKind.i64.wrap ((k:Int)+(j:Int))=(k:Int)+(j:Int):=by unfold IntKind.wrap;simp [IntKind.bits];omega
     have c9:=Q9.out.cell
     have l9:=Q9.out.lt
     have f9:=Q9.out.free
     by_cases hp:(k+j)%2=1
     ·have hpi:((k:Int)+(j:Int))%2=1:=by omega
      have HF:=zh (HO.out k j hp)
      clear hp
      go_wp2_with fail
      refine (aG.pJ _ _ _ Yv.out).mono ?_
      rintro e wi ⟨v,rfl,hbi,hrn⟩
      obtain ⟨n1',n2,n3,n4',n5,n6,n7,n8,rfl, -, -⟩:=id hrn
      rw [← HF.out] at hrn
      have Y9:=Q9.out.later hbi
      have d9:=Y9.cell
      have e9:=Y9.lt
      have g9:=Y9.free
      have hN:=zh (Ra.kJ hrn Y9 zd (.bool n1') (.slice n2 n3 n4') (.bool n5) (.slice n6 n7 n8))
      have hQ:=zh ((((Y9.set 0 (.bool n1')).set 1 (.slice n2 n3 n4')).set 2 (.bool n5)).set 3 (.slice n6 n7 n8))
      have hZ:=zh (((((Bt ZW.out hbi).setCell (p:=⟨q,0,none⟩) hq1 (.bool n1')).setCell (p:=⟨q,1,none⟩) hq1 (.slice n2 n3 n4')).setCell (p:=⟨q,2,none⟩) hq1 (.bool n5)).setCell (p:=⟨q,3,none⟩) hq1 (.slice n6 n7 n8))
      clear hrn hbi c9 l9 f9 Y9
      go_upto_region 20 with fail
      clear d9 e9 g9
      obtain ⟨Wx,EW⟩:∃ y,((((wi.setCell ⟨q,0,none⟩ (.bool n1')).setCell ⟨q,1,none⟩ (.slice n2 n3 n4')).setCell ⟨q,2,none⟩ (.bool n5)).setCell ⟨q,3,none⟩ (.slice n6 n7 n8))=y:=⟨_,rfl⟩
      rw [EW] at hN hQ hZ ⊢
      have Q9x:Hid (aB Wx q #[.bool n1',.slice n2 n3 n4',.bool n5,.slice n6 n7 n8] 152):=hQ
      have ZX:=hZ
      have HFx:=hN
      have c9:=Q9x.out.cell
      have l9:=Q9x.out.lt
      clear hN hQ hZ EW
      go_wp2_with (at_builtin;refine bN (w0:=wo) rfl (.tmp 56) (.tmp 58) 154 rfl 152 i0 (.agg #[.bool false,.slice none 0 0,.bool false,.slice none 0 0]) 4 64 Tryz.underlying154 hi0 hz0 hz1 hz2 rfl zd pK _ ((List.range j).map (F k)) rfl (HR.out.later (Bt ZX.out aA) (pK.stay zi)) (Bt EO.out (Bt ZX.out aA)) _ [.bool n1',.slice n2 n3 n4',.bool n5,.slice n6 n7 n8] (F k j) rfl (aB.new _ _ _) rfl ?c1 ⟨_,_,_,_,_,_,_,_,rfl,HFx.out.later aA⟩ (pK.stay zi) ?c2 zo ?_)
      case c1=>first|(intro u hu;simp only [List.mem_cons,List.not_mem_nil,or_false] at hu;rcases hu with rfl|rfl|rfl|rfl<;>rfl)|exact ⟨rfl,rfl,rfl,rfl⟩
      case c2=>simp;omega
      intro v' w9 hg gQ _
      have HG2:Hid (aX w9 wo.heap.size 152 4 pK v' ((List.range (j+1)).map (F k))):=zh (by rw [fV];exact hg)
      clear hg HR
      go_wp2_with fail
      go_roundw
      case rel=>exact ⟨j+1,by go_num,by omega,HG2,gQ⟩
      case measure=>exact zM
     ·have hpi:((k:Int)+(j:Int))%2=0:=by omega
      have HF:=zh (HE.out k j hp)
      clear hp
      have ZX:=ZW
      have HFx:Hid (Ra W9 (.agg #[.bool v1,.slice v2 v3 v4,.bool v5,.slice v6 v7 v8]) (F k j)):=zh (by rw [HF.out];exact Yv.out)
      go_wp2_with (at_builtin;refine bN (w0:=wo) rfl (.tmp 56) (.tmp 58) 154 rfl 152 i0 (.agg #[.bool false,.slice none 0 0,.bool false,.slice none 0 0]) 4 64 Tryz.underlying154 hi0 hz0 hz1 hz2 rfl zd pK _ ((List.range j).map (F k)) rfl (HR.out.later (Bt ZX.out aA) (pK.stay zi)) (Bt EO.out (Bt ZX.out aA)) _ [.bool v1,.slice v2 v3 v4,.bool v5,.slice v6 v7 v8] (F k j) rfl (aB.new _ _ _) rfl ?c1 ⟨_,_,_,_,_,_,_,_,rfl,HFx.out.later aA⟩ (pK.stay zi) ?c2 zo ?_)
      case c1=>first|(intro u hu;simp only [List.mem_cons,List.not_mem_nil,or_false] at hu;rcases hu with rfl|rfl|rfl|rfl<;>rfl)|exact ⟨rfl,rfl,rfl,rfl⟩
      case c2=>simp;omega
      intro v' w9 hg gQ _
      have HG2:Hid (aX w9 wo.heap.size 152 4 pK v' ((List.range (j+1)).map (F k))):=zh (by rw [fV];exact hg)
      clear hg HR
      go_wp2_with fail
      go_roundw
      case rel=>exact ⟨j+1,by go_num,by omega,HG2,gQ⟩
      case measure=>exact zM
    ·obtain rfl:j=n:=by omega
     have HRV:Hid (kT wr _ _):=zh HR.out.Dy
     obtain ⟨rv,rc,rfl⟩:=HR.out.at (n:=j) zi
     have HB3:=zh (Bt J7.out hbi)
     replace HG:=zh (HG.out.later hbi (jU.stay zi zi))
     clear hbi HR
     go_wp2_with (at_builtin;refine bN (w0:=w4) rfl (.tmp 60) (.tmp 62) 146 rfl 154 i1 (.slice none 0 0) 1 24 Tryz.underlying146 hi1 hy0 hy1 hy2 rfl zd jU _ ((List.range k).map fun i=>(List.range j).map (F i)) rfl (HG.out.later aA (jU.stay zi zi)) (Bt HB3.out aA) _ [.slice rv j rc] ((List.range j).map (F k)) rfl (aB.new _ _ _) rfl ?c1 ⟨_,rfl,HRV.out.later aA⟩ (jU.stay zi zi) ?c2 zo ?_)
     case c1=>first|(intro u hu;simp only [List.mem_cons,List.not_mem_nil,or_false] at hu;rcases hu with rfl;rfl)|rfl
     case c2=>simp;omega
     intro v' w9 hg gQ _
     have HG2:Hid (aX w9 w4.heap.size 154 1 jU v' ((List.range (k+1)).map fun i=>(List.range j).map (F i))):=zh (by rw [fV];exact hg)
     clear hg HG HRV
     go_wp2_with fail
     go_roundw
     case rel=>exact ⟨k+1,by go_num,by omega,HG2,gQ⟩
     case measure=>exact zM
  ·obtain rfl:k=n:=by omega
   obtain ⟨ov,cv,rfl⟩:=HG.out.at (n:=k) zi
   have OUV:=zh (OU.out _ _ HG.out.Dy)
   have HB2:=zh (Bt YC.out hb)
   go_wp2_with fail
   refine OUV.out.mono ?_
   rintro e w6 ⟨hb6,v,rfl,ap6,ap5⟩
   have HP:Hid (aS w er _ (.returned (.tuple #[v,.int .i64 er])) w6):=zh ⟨Bt HB2.out hb6,v,rfl,ap6,ap5⟩
   clear ap6 ap5 hb6
   go_wp2_with fail
   go_ret2
   exact HP.out
end Go.Proofs.aI
