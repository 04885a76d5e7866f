/- Lemmas for the proof. No condition. -/
import Derived.Test.YtddblpggomphpaaGreatDoorXB01
import Derived.Test.YtddblpggomphpaaGreatDoorXB08
import Derived.Test.YtddblpggomphpaaGreatDoorRows
import Derived.ProofKit
import Derived.LaidMore
import Derived.OpenShut
import Derived.Stop.Joined
import Derived.Stop.LaidErr
import Derived.Lib.LaidTab
import Derived.ChangeSame
import Derived.Laws.IdiomArrays
set_option linter.unusedVariables false
set_option linter.unusedSimpArgs false
set_option maxRecDepth 100000
set_option maxHeartbeats 16000000
namespace Go.Proofs.adapt
open Go Go.RowKit Go.SW Go.Num Go.Mem Go.Proofs Go.Dec Go.dB
def jK (g:Nat→Rat):matrix.RM:=(List.range 3).map fun i=>(List.range 3).map fun j=>if j=i then g i else 0
theorem Jd (g:Nat→Rat):oG (bH g).list=(jK g).fr:=by
 have h0:Fr.of 0=Fr.zero:=by decide+kernel
 show [[Fr.of (g 0),Fr.zero,Fr.zero],[Fr.zero,Fr.of (g 1),Fr.zero],[Fr.zero,Fr.zero,Fr.of (g 2)]]=[[Fr.of (g 0),Fr.of 0,Fr.of 0],[Fr.of 0,Fr.of (g 1),Fr.of 0],[Fr.of 0,Fr.of 0,Fr.of (g 2)]]
 rw [h0]
theorem Jc (g:Nat→Rat) (h:dL g=true):(jK g).ok 3:=by
 unfold dL at h
 simp only [Bool.and_eq_true] at h
 have h0:dA 0=true:=by decide+kernel
 refine ⟨by show 1≤3;omega,by show 3≤4;omega,by omega,by omega,fun r hr=>?_⟩
 have hr':r∈[[g 0,0,0],[0,g 1,0],[0,0,g 2]]:=hr
 simp only [List.mem_cons,List.not_mem_nil,or_false] at hr'
 rcases hr' with rfl|rfl|rfl<;>refine ⟨rfl,fun q hq=>?_⟩<;>simp only [List.mem_cons,List.not_mem_nil,or_false] at hq<;>rcases hq with rfl|rfl|rfl<;>first|with_reducible exact h0|with_reducible exact h.1.1|with_reducible exact h.1.2|with_reducible exact h.2
theorem Nb {a b:matrix.RM} {n:Nat} (h1:1≤a.length) (h4:a.length≤4) (n1:1≤n) (n4:n≤4) (h:matrix.gX (matrix.iY a b n)=true):(matrix.iY a b n).ok n:=by
 refine ⟨by simpa [matrix.iY] using h1,by simpa [matrix.iY] using h4,n1,n4,fun r hr=>⟨?_,?_⟩⟩
 ·obtain ⟨x, -, rfl⟩:=List.mem_map.1 hr
  simp
 ·have:=List.all_eq_true.1 h r hr
  exact fun q hq=>List.all_eq_true.1 this q hq
theorem inv0:∀ m,m<4→matrix.Sr (bg m)=0∧matrix.gX (matrix.lS (bg m))=true:=by decide+kernel
theorem Sq (m:Nat) (hm:m<4):(matrix.lS (bg m)).ok 3:=by
 have h:=(inv0 m hm).2
 refine ⟨by show 1≤3;omega,by show 3≤4;omega,by omega,by omega,fun r hr=>⟨?_,fun q hq=>?_⟩⟩
 ·obtain ⟨x, -, rfl⟩:=List.mem_map.1 hr
  simp [bg]
 ·exact List.all_eq_true.1 (List.all_eq_true.1 h r hr) q hq
theorem PY {k:Int} {a b:light.aY} {d:Fr} (h:jh k a b d=0):jL k=0∧dL (iJ k a b d)=true:=by
 have hc:jL k=0:=by
  by_cases hk:jL k=0
  ·exact hk
  ·have:tJ k a b d=jL k:=by unfold tJ;rw [if_pos hk]
   unfold jh at h
   rw [this,if_pos hk] at h
   exact h
 refine ⟨hc,?_⟩
 unfold jh at h
 split at h
 ·rename_i h1;exact absurd h h1
 split at h
 ·cases h
 split at h
 ·cases h
 split at h
 ·cases h
 split at h
 ·rename_i hg
  simp only [Bool.and_eq_true,gU] at hg
  unfold dL iJ
  rw [hg.1.1.2,hg.1.2.2,hg.2.2]
  rfl
 ·cases h
def mo (k:Int) (a b:light.aY) (d:Fr):matrix.RM:=matrix.iY (matrix.lS (bg (k - 1).toNat)) (jK (iJ k a b d)) 3
def pX (k:Int) (a b:light.aY) (d:Fr):matrix.RM:=matrix.iY (mo k a b d) (bg (k - 1).toNat) 3
def yu (k:Int) (a b:light.aY) (d:Fr):Int :=
 if jh k a b d≠0 then jh k a b d else if matrix.gX (mo k a b d) then (if matrix.gX (pX k a b d) then 0 else 6) else 6
theorem Lc (pk pa pb pd:Nat) (k:Int) (a b:light.aY) (d:Fr) (w:World) (h:wB w pk pa pb pd k a b d) (ht:pR.Pow w) (hc:kU w) :
  Calls Tryz.prog 35 #[.pointer (some ⟨pk,0,none⟩),.pointer (some ⟨pa,0,none⟩),.pointer (some ⟨pb,0,none⟩),.pointer (some ⟨pd,0,none⟩)] w (aU w (yu k a b d) (fun v W=>bO W v (pX k a b d).fr)):=by
 have HG:=zh (fun w' (hb:Below w.heap.size w w')=>I6 k a b d w' (ht.later hb) (hc.later hb))
 have U7:=zh (fun w' (hb:Below w.heap.size w w')=>uN k w' (ht.later hb) (hc.later hb))
 have HT:=zh ht
 obtain ⟨C,EC⟩:∃ y,Hid (bg (k - 1).toNat=y):=⟨_,zh rfl⟩
 obtain ⟨I,EI⟩:∃ y,Hid (matrix.lS C=y):=⟨_,zh rfl⟩
 obtain ⟨g,Eg⟩:∃ y,Hid (iJ k a b d=y):=⟨_,zh rfl⟩
 obtain ⟨ge,Ege⟩:∃ y,Hid (jh k a b d=y):=⟨_,zh rfl⟩
 obtain ⟨S,ES⟩:∃ y,Hid (matrix.iY I (jK g) 3=y):=⟨_,zh rfl⟩
 obtain ⟨R,ER⟩:∃ y,Hid (matrix.iY S C 3=y):=⟨_,zh rfl⟩
 have hs:mo k a b d=S:=by unfold mo;rw [EC.out,EI.out,Eg.out,ES.out]
 have hr:pX k a b d=R:=by unfold pX;rw [hs,EC.out,ER.out]
 have he:yu k a b d=if ge≠0 then ge else if matrix.gX S then (if matrix.gX R then 0 else 6) else 6:=by unfold yu;rw [Ege.out,hs,hr]
 have Co:Hid (ge=0→jL k=0∧dL g=true):=zh (by rw [← Ege.out,← Eg.out];exact PY)
 have U4:Hid (jL k=0→(k - 1).toNat<4):=zh fun hk=>by
  unfold jL at hk
  by_cases h:k<1∨4<k
  ·rw [if_pos h] at hk;cases hk
  ·omega
 have ah3:Hid (jL k=0→C.ok 3∧C.length=3):=zh fun hk=>by rw [← EC.out];exact ⟨tC _ (U4.out hk),rfl⟩
 have ah0:Hid (jL k=0→I.ok 3∧I.length=3∧matrix.Sr C=0):=zh fun hk=>by rw [← EI.out,← EC.out];exact ⟨Sq _ (U4.out hk),rfl,(inv0 _ (U4.out hk)).1⟩
 rw [hr]
 obtain ⟨er,Dt⟩:∃ y,Hid (yu k a b d=y):=⟨_,zh rfl⟩
 rw [Dt.out] at he ⊢
 have vZ:=zh he
 rw [EC.out] at U7
 rw [Eg.out,Ege.out] at HG
 obtain ⟨⟨⟨q1,q2⟩,⟨q3,q4⟩,⟨q5,q6⟩⟩,EG⟩:∃ y:light.aY,Hid (bH g=y):=⟨_,zh rfl⟩
 rw [EG.out] at HG
 have HDF:Hid (oG (⟨⟨q1,q2⟩,⟨q3,q4⟩,⟨q5,q6⟩⟩:light.aY).list=(jK g).fr):=zh (by rw [← EG.out];exact Jd g)
 have HDE:Hid (dL g=true→TS (⟨⟨q1,q2⟩,⟨q3,q4⟩,⟨q5,q6⟩⟩:light.aY).list=0):=zh fun hg=>by
  rw [← EG.out]
  unfold dL at hg
  simp only [Bool.and_eq_true] at hg
  show dP [Fr.of (g 0),Fr.of (g 1),Fr.of (g 2)]=0
  unfold dP
  simp [iX hg.1.1,iX hg.1.2,iX hg.2]
 obtain ⟨ce,Ece⟩:∃ y,Hid (jL k=y):=⟨_,zh rfl⟩
 rw [Ece.out] at Co U4 ah3 ah0 U7
 obtain ⟨hk,ha,hb,hd⟩:=h
 obtain ⟨⟨a1,a2⟩,⟨a3,a4⟩,⟨a5,a6⟩⟩:=a
 obtain ⟨⟨b1,b2⟩,⟨b3,b4⟩,⟨b5,b6⟩⟩:=b
 obtain ⟨d1,d2⟩:=d
 unfold light.aY.v light.aY.cells Fr.v at HG
 unfold light.aY.cells at ha hb
 have ck:=hk.cell
 have ca:=ha.cell
 have cb:=hb.cell
 have cd:=hd.cell
 have lk:=hk.lt
 have la:=ha.lt
 have lb:=hb.lt
 have ld:=hd.lt
 have EIC:Hid (matrix.lS C=I):=EI
 clear ht hc ha hb hd Dt EG he hs hr EC EI Eg Ege Ece
 go_enter Tryz.func35,Tryz.ntmps35
 go_wp2_with fail
 refine (HG.out _ (Below.refl _ _)).mono ?_
 rintro e w1 ⟨hb1,⟨hg0,v,rfl,rfl⟩|⟨hge,rfl⟩⟩
 rotate_left
 ·have HE:Hid (er=ge):=zh (by rw [vZ.out,if_pos hge])
  exact ⟨rfl,by rw [HE.out];exact aU.no hb1 hge⟩
 obtain ⟨hce,hg3⟩:=Co.out hg0
 subst hg0
 subst hce
 have rV:=zh (ah3.out rfl)
 have HIK:=zh (ah0.out rfl)
 have HDO:=zh (Jc g hg3)
 have hde:=HDE.out hg3
 replace HDE:=zh hde
 have zW:Hid (er=if matrix.gX S then (if matrix.gX R then 0 else 6) else 6):=zh (by rw [vZ.out,if_neg zi])
 clear hde hg3 ah3 ah0 vZ Co U4 HG ck ca cb cd
 replace hk:=hk.later hb1
 have ck:=hk.cell
 replace lk:=hk.lt
 go_wp2_with fail
 have h12:Below w1.heap.size w1 (w1.alloc (.cells #[.string q1,.string q2,.string q3,.string q4,.string q5,.string q6] 37)):=aA
 have hx:=aB.new w1 #[.string q1,.string q2,.string q3,.string q4,.string q5,.string q6] 37
 obtain ⟨w2,Qu⟩:∃ y,w1.alloc (.cells #[.string q1,.string q2,.string q3,.string q4,.string q5,.string q6] 37)=y:=⟨_,rfl⟩
 rw [Qu] at h12 hx
 have hb2:Below w.heap.size w w2:=Bt hb1 h12
 clear h12 hb1
 rw [Qu]
 refine (U7.out _ hb2).mono ?_
 rintro e w3 ⟨hb3,vc,rfl,hy1, -⟩
 have hmv:=hy1 rfl
 obtain ⟨rs,hR, -⟩:=id hmv
 obtain ⟨ac,cc,rfl, -⟩:=hR
 obtain ⟨nc,Enc⟩:∃ y,rs.length=y:=⟨_,rfl⟩
 rw [Enc] at hmv
 have HC:=zh hmv
 have HX:=zh (hx.later hb3)
 have HB:=zh (Bt hb2 hb3)
 clear hmv hy1 hx hb3 Qu U7 hb2
 go_wp2_with fail
 refine (qA _ _ _ _).mono ?_
 rintro e w4 ⟨rfl,rfl⟩
 have hI:=matrix.GI _ C w4 HC.out (by rw [rV.out.2];exact rV.out.1) (HT.out.later HB.out)
 rw [HIK.out.2.2,EIC.out] at hI
 have HIN:=zh hI
 clear hI
 go_wp2_with fail
 refine HIN.out.mono ?_
 rintro e w5 ⟨hb5,vi,rfl,hy1, -⟩
 have hmv:=hy1 rfl
 obtain ⟨rs2,hR, -⟩:=id hmv
 obtain ⟨ai,ci,rfl, -⟩:=hR
 obtain ⟨ni,Eni⟩:∃ y,rs2.length=y:=⟨_,rfl⟩
 rw [Eni] at hmv
 have HI:=zh hmv
 replace HC:=zh (HC.out.later hb5)
 replace HX:=zh (HX.out.later hb5)
 replace HB:=zh (Bt HB.out hb5)
 clear hmv hy1 hb5 HIN
 go_wp2_with fail
 refine (qA _ _ _ _).mono ?_
 rintro e w6 ⟨rfl,rfl⟩
 have hD:=matrix.uf _ _ 37 w6 (light.aY.zL (t:=⟨⟨q1,q2⟩,⟨q3,q4⟩,⟨q5,q6⟩⟩) HX.out)
 rw [HDE.out,HDF.out] at hD
 have HDG:=zh hD
 clear hD
 have cx:=HX.out.cell
 have lx:=HX.out.lt
 go_wp2_with fail
 refine HDG.out.mono ?_
 rintro e w7 ⟨dY,vd,rfl,hy1, -⟩
 have hmv:=hy1 rfl
 obtain ⟨rs3,hR, -⟩:=id hmv
 obtain ⟨ad,cd,rfl, -⟩:=hR
 obtain ⟨nd,End⟩:∃ y,rs3.length=y:=⟨_,rfl⟩
 rw [End] at hmv
 have HD:=zh hmv
 replace HC:=zh (HC.out.later dY)
 replace HI:=zh (HI.out.later dY)
 replace HB:=zh (Bt HB.out dY)
 clear hmv hy1 dY HDG cx lx HX
 go_wp2_with fail
 refine (qA _ _ _ _).mono ?_
 rintro e w8 ⟨rfl,rfl⟩
 have hM:=matrix.IB _ _ I (jK g) 3 w8 HI.out HD.out HIK.out.1 HDO.out (HT.out.later HB.out)
 rw [ES.out] at hM
 have HMU:=zh hM
 clear hM
 go_wp2_with fail
 refine HMU.out.mono ?_
 rintro e w9 ⟨gQ,vs,rfl,hy1,hy2⟩
 clear HMU
 by_cases hs:matrix.gX S=true
 rotate_left
 ·rw [if_neg hs] at hy1 hy2
  have hv:=hy2 zd
  subst hv
  have HE:Hid (er=6):=zh (by rw [zW.out,if_neg hs])
  rw [if_neg hs]
  have HB9:=zh (Bt HB.out gQ)
  clear hs hy1 hy2
  go_wp2_with fail
  refine (yt _ _ _ 6 zd _).mono ?_
  rintro e w10 ⟨rfl,rfl⟩
  exact ⟨rfl,by rw [HE.out];exact aU.no HB9.out zd⟩
 have HS:=zh hs
 have HSO:Hid (S.ok 3):=zh (by
  rw [← ES.out] at hs ⊢
  exact Nb (by rw [HIK.out.2.1];decide) (by rw [HIK.out.2.1];decide) zd zd hs)
 rw [if_pos hs] at hy1 hy2
 rw [if_pos hs]
 have hmv:=hy1 rfl
 obtain ⟨rs4,hR, -⟩:=id hmv
 obtain ⟨asl,csl,rfl, -⟩:=hR
 obtain ⟨ns,Ens⟩:∃ y,rs4.length=y:=⟨_,rfl⟩
 rw [Ens] at hmv ⊢
 have HSV:=zh hmv
 replace HC:=zh (HC.out.later gQ)
 replace HB:=zh (Bt HB.out gQ)
 clear hmv hy1 hy2 gQ hs
 go_wp2_with fail
 refine (qA _ _ _ _).mono ?_
 rintro e w10 ⟨rfl,rfl⟩
 have hM:=matrix.IB _ _ S C 3 w10 HSV.out HC.out (by rw [rV.out.2];exact HSO.out) rV.out.1 (HT.out.later HB.out)
 rw [ER.out] at hM
 have HMU:=zh hM
 clear hM
 go_wp2_with fail
 refine HMU.out.mono ?_
 rintro e w11 ⟨zJ,vr,rfl,hy1,hy2⟩
 clear HMU
 have az2:=zh (Bt HB.out zJ)
 by_cases hs:matrix.gX R=true
 rotate_left
 ·rw [if_neg hs] at hy1 hy2
  have hv:=hy2 zd
  subst hv
  have HE:Hid (er=6):=zh (by rw [zW.out,if_pos HS.out,if_neg hs])
  rw [if_neg hs]
  clear hs hy1 hy2
  go_wp2_with fail
  refine (yt _ _ _ 6 zd _).mono ?_
  rintro e w12 ⟨rfl,rfl⟩
  exact ⟨rfl,by rw [HE.out];exact aU.no az2.out zd⟩
 have HE:Hid (er=0):=zh (by rw [zW.out,if_pos HS.out,if_pos hs])
 rw [if_pos hs] at hy1 hy2
 rw [if_pos hs]
 have hmv:=hy1 rfl
 obtain ⟨rs5,hR, -⟩:=id hmv
 obtain ⟨ar,cr,rfl, -⟩:=hR
 obtain ⟨nr,Enr⟩:∃ y,rs5.length=y:=⟨_,rfl⟩
 rw [Enr] at hmv ⊢
 have HRV:=zh hmv
 clear hmv hy1 hy2 hs zJ
 go_wp2_with fail
 refine (qA _ _ _ _).mono ?_
 rintro e w12 ⟨rfl,rfl⟩
 go_wp2_with fail
 go_ret
 rw [HE.out]
 exact aU.yes az2.out HRV.out
theorem Ql (k:Int) (a b:light.aY) (d:Fr) (w:World) (ht:pR.Pow w) (hc:kU w) :
  Calls Tryz.prog 13 #[.int .i64 k,a.v,b.v,d.v] w (aS w (yu k a b d) (pX k a b d).fr):=by
 have Nq:∀ (fn:Fn) (first cap:Array Value) (w:World),(Instr.makeFunc fn first cap).run Tryz.prog w= .ok (.func fn first cap) w:=fun _ _ _ _=>rfl
 obtain ⟨w0,kF⟩:∃ y,(((w.alloc (.cells #[.int .i64 k] 3)).alloc (.cells a.cells 38)).alloc (.cells b.cells 38)).alloc (.cells #[.string d.n,.string d.d] 36)=y:=⟨_,rfl⟩
 have hb0:Below w.heap.size w w0:=by rw [← kF];exact aA
 have hA:wB w0 w.heap.size (w.heap.size+1) (w.heap.size+1+1) (w.heap.size+1+1+1) k a b d:=by
  rw [← kF]
  exact ⟨aL,aL,aL,aB.at3 _ _ _ _ _ _⟩
 obtain ⟨er,Dt⟩:∃ y,Hid (yu k a b d=y):=⟨_,zh rfl⟩
 obtain ⟨R,ER⟩:∃ y,Hid ((pX k a b d).fr=y):=⟨_,zh rfl⟩
 have hat:=zq 35 #[.pointer (some ⟨w.heap.size,0,none⟩),.pointer (some ⟨w.heap.size+1,0,none⟩),.pointer (some ⟨w.heap.size+1+1,0,none⟩),.pointer (some ⟨w.heap.size+1+1+1,0,none⟩)] (yu k a b d) (pX k a b d).fr w0
  (fun W hW=>Lc _ _ _ _ k a b d W (hA.later hW) ((ht.later hb0).later hW) ((hc.later hb0).later hW)) (fun args W=>enters_of Tryz.func35 zk rfl args W)
 rw [Dt.out,ER.out] at hat ⊢
 have HAT:=zh hat
 obtain ⟨⟨a1,a2⟩,⟨a3,a4⟩,⟨a5,a6⟩⟩:=a
 obtain ⟨⟨b1,b2⟩,⟨b3,b4⟩,⟨b5,b6⟩⟩:=b
 obtain ⟨d1,d2⟩:=d
 unfold light.aY.cells at kF
 simp only at kF
 clear hat ht hc hA Dt ER
 go_enter Tryz.func13,Tryz.ntmps13
 unfold light.aY.v light.aY.cells Fr.v
 go_wp2_with fail
 clear kF
 refine HAT.out.mono ?_
 rintro e w1 ⟨hb1,v,rfl,hv1,hv2⟩
 have HV:Hid (aS w er R (.returned (.tuple #[v,.int .i64 er])) w1):=zh ⟨Bt hb0 hb1,v,rfl,hv1,hv2⟩
 clear hv1 hv2 HAT
 go_wp2_with fail
 go_ret2
 exact HV.out
def mQ (m:List (List Fr)):matrix.RM:=m.map fun r=>r.map qF
theorem ao3 {r:List Fr} (h:dP r=0):r=(r.map qF).map Fr.of∧∀ q∈r.map qF,dA q=true:=by
 unfold dP at h
 split at h
 ·rename_i hh
  rw [List.all_eq_true] at hh
  refine ⟨?_,fun q hq=>?_⟩
  ·rw [List.map_map]
   conv=>lhs;rw [← List.map_id r]
   exact List.map_congr_left fun a ha=>(yY (hh a ha)).1
  ·obtain ⟨a,ha,rfl⟩:=List.mem_map.1 hq
   exact (yY (hh a ha)).2
 ·cases h
theorem R6 {m:List (List Fr)} (h:oI m=0):m=(mQ m).fr∧(mQ m).ok (m.headD []).length:=by
 unfold oI at h
 split at h
 ·rename_i hh
  unfold FL at hh
  simp only [Bool.and_eq_true,decide_eq_true_eq,List.all_eq_true,beq_iff_eq] at hh
  obtain ⟨⟨⟨⟨h1,h2⟩,h3⟩,h4⟩,h5⟩:=hh
  refine ⟨?_,by simpa [mQ] using h1,by simpa [mQ] using h2,h3,h4,fun r hr=>?_⟩
  ·unfold mQ matrix.RM.fr
   rw [List.map_map]
   conv=>lhs;rw [← List.map_id m]
   exact List.map_congr_left fun r hr=>(ao3 (h5 r hr).2).1
  ·obtain ⟨r',hr',rfl⟩:=List.mem_map.1 hr
   exact ⟨by simpa using (h5 r' hr').1,(ao3 (h5 r' hr').2).2⟩
 ·cases h
def iV (m:List (List Fr)) (t:light.aY):Int :=
 if oI m≠0 then oI m else if light.iU t≠0 then light.iU t else if m.length≠3∨(m.headD []).length≠3 then 2 else if dL (fC (mQ m) (qT t)) then 0 else 6
def oJ (m:List (List Fr)) (t:light.aY):light.aY:=bH (fC (mQ m) (qT t))
theorem NZ {t:light.aY} (h:light.iU t=0):t=bH (qT t)∧dL (qT t)=true:=by
 unfold light.iU at h
 by_cases hc:dP t.list=0
 ·exact Ru hc
 ·rw [if_neg hc] at h;cases h
theorem Qj (pm pt:Nat) (va:Value) (m:List (List Fr)) (t:light.aY) (w:World) (hp:aB w pm #[va] 44) (hm:bO w va m) (hpt:aB w pt t.cells 38) (ht:pR.Pow w) :
  Calls Tryz.prog 48 #[.pointer (some ⟨pm,0,none⟩),.pointer (some ⟨pt,0,none⟩)] w (aU w (iV m t) (fun v _=>v=(oJ m t).v)):=by
 have HCM:=zh (fun w' (hb:Below w.heap.size w w')=>matrix.gD va m w' (hm.later hb))
 have HCT:=zh (fun w'=>light.gD t w')
 have HT:=zh ht
 have vY:=zh hm
 have HE:Hid (iV m t=if oI m≠0 then oI m else if light.iU t≠0 then light.iU t else if m.length≠3∨(m.headD []).length≠3 then 2 else if dL (fC (mQ m) (qT t)) then 0 else 6):=zh rfl
 have J6:Hid (oI m=0→m=(mQ m).fr∧(mQ m).ok (m.headD []).length):=zh R6
 have HTQ:Hid (light.iU t=0→t=bH (qT t)∧dL (qT t)=true):=zh NZ
 obtain ⟨er,Dt⟩:∃ y,Hid (iV m t=y):=⟨_,zh rfl⟩
 obtain ⟨cm,Ecm⟩:∃ y,Hid (oI m=y):=⟨_,zh rfl⟩
 obtain ⟨ct,Ect⟩:∃ y,Hid (light.iU t=y):=⟨_,zh rfl⟩
 obtain ⟨f,Ef⟩:∃ y,Hid (qT t=y):=⟨_,zh rfl⟩
 obtain ⟨M,EM⟩:∃ y,Hid (mQ m=y):=⟨_,zh rfl⟩
 obtain ⟨g,Eg⟩:∃ y,Hid (fC M f=y):=⟨_,zh rfl⟩
 have hag:oJ m t=bH g:=by unfold oJ;rw [EM.out,Ef.out,Eg.out]
 rw [hag,Dt.out]
 rw [Dt.out,Ecm.out,Ect.out,EM.out,Ef.out,Eg.out] at HE
 rw [Ecm.out] at HCM J6
 rw [EM.out] at J6
 rw [Ect.out] at HCT HTQ
 rw [Ef.out] at HTQ
 obtain ⟨tt,Ett⟩:∃ y:light.aY,Hid (t=y):=⟨_,zh rfl⟩
 rw [Ett.out] at HCT hpt HTQ
 obtain ⟨rs,hR,hrl, -⟩:=id hm
 obtain ⟨am,cam,rfl, -⟩:=hR
 obtain ⟨n,En⟩:∃ y,rs.length=y:=⟨_,rfl⟩
 rw [En] at hrl vY HCM hp
 obtain ⟨⟨a1,a2⟩,⟨a3,a4⟩,⟨a5,a6⟩⟩:=tt
 unfold light.aY.v light.aY.cells at HCT
 unfold light.aY.cells at hpt
 have h0:Below w.heap.size w (w.alloc (.cells #[.string ⟨#[]⟩,.string ⟨#[]⟩,.string ⟨#[]⟩,.string ⟨#[]⟩,.string ⟨#[]⟩,.string ⟨#[]⟩] 38)):=aA
 have hx:=aB.new w #[.string ⟨#[]⟩,.string ⟨#[]⟩,.string ⟨#[]⟩,.string ⟨#[]⟩,.string ⟨#[]⟩,.string ⟨#[]⟩] 38
 obtain ⟨b2,Eb2⟩:∃ y,w.heap.size=y:=⟨_,rfl⟩
 have cp:=hp.cell
 have lp:=hp.lt
 have lpt:=hpt.lt
 have HRL:=zh hrl
 have HP:=zh hp
 have Uy:=zh hpt
 have HX:=zh hx
 clear hp hpt hx hm ht Dt Ecm Ect Ef EM Ett hag hrl En Eb2
 go_enter Tryz.func48,Tryz.ntmps48
 go_wp2_with fail
 refine (HCM.out _ h0).mono ?_
 rintro e w1 ⟨rfl,hb1⟩
 have h1:Below w.heap.size w w1:=Bt h0 hb1
 by_cases hcm:cm=0
 rotate_left
 ·have GL:Hid (er=cm):=zh (by rw [HE.out,if_pos hcm])
  go_wp2_with fail
  refine (iG cm hcm _).mono ?_
  rintro e w2 ⟨rfl,rfl⟩
  exact ⟨rfl,by rw [GL.out];exact aU.no h1 hcm⟩
 subst hcm
 replace HX:=zh (HX.out.later hb1)
 replace HP:=zh (HP.out.later h1)
 replace Uy:=zh (Uy.out.later h1)
 have cpt:=Uy.out.cell
 replace lpt:=Uy.out.lt
 clear cp lp
 go_wp2_with fail
 refine (nL _).mono ?_
 rintro e w2 ⟨rfl,rfl⟩
 go_wp2_with fail
 refine (HCT.out _).mono ?_
 rintro e w3 ⟨rfl,hb3⟩
 have h3:Below w.heap.size w w3:=Bt h1 hb3
 by_cases hct:ct=0
 rotate_left
 ·have GL:Hid (er=ct):=zh (by rw [HE.out,if_neg zi,if_pos hct])
  go_wp2_with fail
  refine (iG ct hct _).mono ?_
  rintro e w4 ⟨rfl,rfl⟩
  exact ⟨rfl,by rw [GL.out];exact aU.no h3 hct⟩
 subst hct
 replace HX:=zh (HX.out.later hb3)
 replace HP:=zh (HP.out.later hb3)
 replace Uy:=zh (Uy.out.later hb3)
 obtain ⟨hmq,hok⟩:=J6.out (by first|rfl|trivial)
 have CB:=zh hok
 have hmv:=vY.out.later h3
 rw [hmq] at hmv
 obtain ⟨b,off,cap,a0,cap0,e,lb,hc0⟩:=matrix.bO.head hmv hok.1
 have hhd:(M.headD []).length=(m.headD []).length:=by
  rw [hmq]
  cases M with
  | nil=>rfl
  | cons r t=>simp [matrix.RM.fr]
 rw [hhd] at hc0
 have ay8:=zh hmv
 clear hmv cpt lpt hok hmq
 simp only [Value.slice.injEq] at e
 obtain ⟨rfl,hnM,rfl⟩:=e
 have HNM:=zh hnM
 obtain ⟨nh,Enh⟩:∃ y,Hid ((m.headD []).length=y):=⟨_,zh rfl⟩
 rw [Enh.out] at CB hc0 HE
 rw [← HRL.out] at HE
 have HE2:Hid (er=if n≠3∨nh≠3 then 2 else if dL g=true then 0 else 6):=zh (by rw [HE.out,if_neg zi,if_neg zi])
 have cp:=HP.out.cell
 have lp:=HP.out.lt
 clear hnM hhd HE vY HCM J6 HCT hb1 h0 h1 Enh
 go_wp2_with fail
 refine (nL _).mono ?_
 rintro e w4 ⟨rfl,rfl⟩
 by_cases hn:n=3
 rotate_left
 ·have GL:Hid (er=2):=zh (by rw [HE2.out,if_pos (.inl hn)])
  have b1:((n:Int) != 3)=true:=by simp;omega
  clear hn
  go_wp2_with fail
  refine (iG 2 zd _).mono ?_
  rintro e w5 ⟨rfl,rfl⟩
  exact ⟨rfl,by rw [GL.out];exact aU.no h3 zd⟩
 subst hn
 by_cases hnh:nh=3
 rotate_left
 ·have GL:Hid (er=2):=zh (by rw [HE2.out,if_pos (.inr hnh)])
  have b1:((nh:Int) != 3)=true:=by simp;omega
  clear hnh
  go_wp2_with fail
  refine (iG 2 zd _).mono ?_
  rintro e w5 ⟨rfl,rfl⟩
  exact ⟨rfl,by rw [GL.out];exact aU.no h3 zd⟩
 subst hnh
 have HE3:Hid (er=if dL g=true then 0 else 6):=zh (by rw [HE2.out,if_neg zi])
 clear HE2
 have Yr:Hid (w.heap.size<w4.heap.size):=zh HX.out.lt
 obtain ⟨htq,hall⟩:=HTQ.out (by first|rfl|trivial)
 have hl3:(jQ f).map Fr.of=[⟨a1,a2⟩,⟨a3,a4⟩,⟨a5,a6⟩]:=by
  show (bH f).list=_
  rw [← htq]
  rfl
 have hq:∀ q∈jQ f,dA q=true:=by
  unfold dL at hall
  simp only [Bool.and_eq_true] at hall
  intro q hq
  simp only [jQ,List.mem_cons,List.not_mem_nil,or_false] at hq
  rcases hq with rfl|rfl|rfl
  ·exact hall.1.1
  ·exact hall.1.2
  ·exact hall.2
 have hap:=fun vl (T:TypeId) w' (hb:Below w4.heap.size w4 w') (hl:jI w' T vl ((jQ f).map Fr.of))=>matrix.Ca (.slice (some ⟨b,off,none⟩) 3 cam) vl M (jQ f) T w' (ay8.out.later hb) hl CB.out hq (HT.out.later (Bt h3 hb))
 have hml:(M.map fun r=>dK r (jQ f))=jQ (fC M f):=by
  have h3:=HNM.out.symm
  match M,h3 with
  | [r1,r2,r3],_=>rfl
 rw [hml,Eg.out,hl3] at hap
 have Qt:=zh hap
 have Co:Hid ((jQ g).all dA=dL g):=zh (by simp [jQ,dL,Bool.and_assoc])
 have vZ:Hid ((if dL g then 0 else 6)=er):=zh HE3.out.symm
 go_wp2_with fail
 obtain ⟨w0,kF⟩:∃ y,w4.alloc (.cells #[.string ⟨#[]⟩,.string ⟨#[]⟩,.string ⟨#[]⟩,.string ⟨#[]⟩,.string ⟨#[]⟩,.string ⟨#[]⟩] 38)=y:=⟨_,rfl⟩
 have hb0:Below w4.heap.size w4 w0:=by rw [← kF];exact aA
 have hx0:aB w0 pt #[.string a1,.string a2,.string a3,.string a4,.string a5,.string a6] 38:=Uy.out.later hb0
 have hx1:aB w0 w.heap.size #[.string ⟨#[]⟩,.string ⟨#[]⟩,.string ⟨#[]⟩,.string ⟨#[]⟩,.string ⟨#[]⟩,.string ⟨#[]⟩] 38:=HX.out.later hb0
 have hx2:aB w0 w4.heap.size #[.string ⟨#[]⟩,.string ⟨#[]⟩,.string ⟨#[]⟩,.string ⟨#[]⟩,.string ⟨#[]⟩,.string ⟨#[]⟩] 38:=by rw [← kF];exact aL
 have hxp:aB w0 pm #[.slice (some ⟨b,off,none⟩) 3 cam] 44:=HP.out.later hb0
 rw [kF]
 clear kF hap hml hq hall htq hl3 hc0 cp lp HE3 HTQ HRL HNM ay8 CB HP Uy HX hb3 Eg
 have cp:=hxp.cell
 have lp:=hxp.lt
 have hlw:w.heap.size<w4.heap.size:=Yr.out
 refine aC [(.pure,0),(.read,1),(.pure,2),(.ext,3),(.pure,4),(.pure,5),(.ext,6),(.fin,7)] zk zk zR zP ?_
 repeat (first|(refine ah rfl rfl fun J h=>?_;go_simp;refine h _ ?_;clear h J)|(refine au rfl rfl rfl rfl fun J h=>?_;go_simp;refine h _ ?_;clear h J;try go_simp))
 refine aD rfl rfl (fun w1 hb1 J hJ=>?_);go_simp
 have h01:Below w0.heap.size w0 w1:=aA
 refine (Qt.out _ 38 w1 (Bt hb0 h01) (light.aY.zL (t:=⟨⟨a1,a2⟩,⟨a3,a4⟩,⟨a5,a6⟩⟩) (hx0.later h01))).mono ?_
 rintro e w2 (⟨hy,vo,rfl,hb2,hfr⟩|⟨hy,rfl,hb2⟩)
 ·rw [Co.out] at hy
  refine hJ _ _ hb2 ?_
  clear hJ J
  obtain ⟨⟨s1,s2⟩,E1⟩:∃ x:Fr,Hid (Fr.of (g 0)=x):=⟨_,zh rfl⟩
  obtain ⟨⟨s3,s4⟩,E2⟩:∃ x:Fr,Hid (Fr.of (g 1)=x):=⟨_,zh rfl⟩
  obtain ⟨⟨s5,s6⟩,E3⟩:∃ x:Fr,Hid (Fr.of (g 2)=x):=⟨_,zh rfl⟩
  have hl:(jQ g).map Fr.of=[⟨s1,s2⟩,⟨s3,s4⟩,⟨s5,s6⟩]:=by
   show [Fr.of (g 0),Fr.of (g 1),Fr.of (g 2)]=_
   rw [E1.out,E2.out,E3.out]
  have hv:(bH g).v= .agg #[.string s1,.string s2,.string s3,.string s4,.string s5,.string s6]:=by
   unfold bH
   rw [E1.out,E2.out,E3.out]
   rfl
  rw [hl] at hfr
  have HVV:=zh hv
  have Xt:Hid (er=0):=zh (by rw [← vZ.out,hy];rfl)
  obtain ⟨ao,co,rfl, -⟩:=hfr.read
  obtain ⟨-, bb,oo,rfl,Sl,hcell⟩:=jI.cells hfr zi
  have hc0:=hcell 0 zi
  have hc1:=hcell 1 zi
  have hc2:=hcell 2 zi
  simp only [List.getElem_cons_zero,List.getElem_cons_succ,Nat.zero_mul,Nat.add_zero] at hc0 hc1 hc2
  clear hl hv hfr hcell hy
  repeat (first|(refine ah rfl rfl fun J h=>?_;go_simp;refine h _ ?_;clear h J)|(refine au rfl rfl rfl rfl fun J h=>?_;go_simp;refine h _ ?_;clear h J;try go_simp))
  refine aD rfl rfl (fun w3 hb3 J hJ=>?_);go_simp
  refine (Iy _ _ _ w3).mono ?_
  rintro e w7 ⟨rfl,rfl⟩
  refine hJ _ _ (Below.refl _ _) ?_
  clear hJ J
  refine aJ [_] rfl (fun w5 hb5=>?_)
  have I4:Below w2.heap.size w2 w5:=aA
  have zK:Below w0.heap.size w0 w5:=Bt (Bt h01 hb2) I4
  have k1:=(I4.cell (p:=⟨bb,oo,none⟩) Sl).trans hc0.1
  have k2:=(I4.cell (p:=⟨bb,oo+1,none⟩) Sl).trans hc0.2
  have k3:=(I4.cell (p:=⟨bb,oo+1*2,none⟩) Sl).trans hc1.1
  have k4:=(I4.cell (p:=⟨bb,oo+1*2+1,none⟩) Sl).trans hc1.2
  have k5:=(I4.cell (p:=⟨bb,oo+2*2,none⟩) Sl).trans hc2.1
  have k6:=(I4.cell (p:=⟨bb,oo+2*2+1,none⟩) Sl).trans hc2.2
  have hy2:=hx2.later zK
  have hcp:∀ ty,(Builtin.copy_ #[56,56] ty #[.slice (some ⟨w4.heap.size,0,none⟩) 3 3,.slice (some ⟨bb,oo,none⟩) 3 co]).run Tryz.prog w5= .ok (goInt 3) (w5.setRow (w4.heap.size) #[.string s1,.string s2,.string s3,.string s4,.string s5,.string s6]):=fun ty=>by
   obtain ⟨i0,hi,hz0,hz1,hz2⟩:=info_parts matrix.ny
   exact matrix.oh Tryz.prog w5 56 56 ty 36 (w4.heap.size) 0 3 3 2 ⟨bb,oo,none⟩ 3 co #[.string ⟨#[]⟩,.string ⟨#[]⟩,.string ⟨#[]⟩,.string ⟨#[]⟩,.string ⟨#[]⟩,.string ⟨#[]⟩] 38 [.string s1,.string s2,.string s3,.string s4,.string s5,.string s6] Tryz.underlying56 (by rw [hi];simp [hz1]) hy2 rfl (fun j v hv=>by
    rw [Addr.add_lit]
    match j,hv with
    | 0,hv=>cases hv;exact k1
    | 1,hv=>cases hv;exact k2
    | 2,hv=>cases hv;exact k3
    | 3,hv=>cases hv;exact k4
    | 4,hv=>cases hv;exact k5
    | 5,hv=>cases hv;exact k6) zi (by intro v hv;simp at hv;rcases hv with rfl|rfl|rfl|rfl|rfl|rfl<;>rfl)
  obtain ⟨w6,MK⟩:∃ y,w5.setRow (w4.heap.size) #[.string s1,.string s2,.string s3,.string s4,.string s5,.string s6]=y:=⟨_,rfl⟩
  have hz2:aB w6 (w4.heap.size) #[.string s1,.string s2,.string s3,.string s4,.string s5,.string s6] 38:=by rw [← MK];exact setRow_heap _ _ _ _ _ _ hy2
  have Px:Below w4.heap.size w4 w6:=by rw [← MK];exact below_setRow (Bt hb0 zK) zo _
  have hz1:aB w6 (w.heap.size) #[.string ⟨#[]⟩,.string ⟨#[]⟩,.string ⟨#[]⟩,.string ⟨#[]⟩,.string ⟨#[]⟩,.string ⟨#[]⟩] 38:=by
   rw [← MK]
   have:=hx1.later zK
   unfold aB at *
   rw [setRow_other _ _ _ _ zo]
   exact this
  rw [MK] at hcp
  have c2:=hz2.cell
  have c1:=hz1.cell
  have f1:=hz1.free
  have HZ2:=zh hz2
  have HW6:=zh (Bt h3 Px)
  clear k1 k2 k3 k4 k5 k6 hc0 hc1 hc2 hy2 MK hx0 hx1 hx2 hb0 hb1 h01 hb2 hb3 hb5 I4 zK hz2
  go_wp2_with fail
  refine bP rfl rfl ((((((hz1.set 0 _).set 1 _).set 2 _).set 3 _).set 4 _).set 5 _) Tryz.underlying38 rfl zk ?_
  rw [Xt.out]
  exact aU.yes ((((((HW6.out.setCell (Nat.le_refl _) _).setCell (Nat.le_refl _) _).setCell (Nat.le_refl _) _).setCell (Nat.le_refl _) _).setCell (Nat.le_refl _) _).setCell (Nat.le_refl _) _) (by rw [HVV.out];rfl)
 ·rw [Co.out] at hy
  have Xk:Hid (er=6):=zh (by rw [← vZ.out,hy];rfl)
  refine hJ _ _ hb2 ?_
  clear hJ J hy
  repeat (first|(refine ah rfl rfl fun J h=>?_;go_simp;refine h _ ?_;clear h J)|(refine au rfl rfl rfl rfl fun J h=>?_;go_simp;refine h _ ?_;clear h J;try go_simp))
  refine aD rfl rfl (fun w3 hb3 J hJ=>?_);go_simp
  refine (DJ _ _ _ 6 zd w3).mono ?_
  rintro e w7 ⟨rfl,rfl⟩
  exact ⟨rfl,by rw [Xk.out];exact aU.no (Bt h3 (Bt (Bt (Bt hb0 h01) hb2) aA)) zd⟩
theorem JW (va:Value) (m:List (List Fr)) (t:light.aY) (w:World) (hm:bO w va m) (ht:pR.Pow w) :
  Calls Tryz.prog 20 #[va,t.v] w (fO w (iV m t) (oJ m t)):=by
 have Nq:∀ (fn:Fn) (first cap:Array Value) (w:World),(Instr.makeFunc fn first cap).run Tryz.prog w= .ok (.func fn first cap) w:=fun _ _ _ _=>rfl
 obtain ⟨rs,hR, -⟩:=id hm
 obtain ⟨am,cam,rfl, -⟩:=hR
 obtain ⟨n,En⟩:∃ y,rs.length=y:=⟨_,rfl⟩
 rw [En] at hm ⊢
 obtain ⟨w0,kF⟩:∃ y,((w.alloc (.cells #[.slice am n cam] 44)).alloc (.cells t.cells 38)).alloc (.cells #[.string ⟨#[]⟩,.string ⟨#[]⟩,.string ⟨#[]⟩,.string ⟨#[]⟩,.string ⟨#[]⟩,.string ⟨#[]⟩] 38)=y:=⟨_,rfl⟩
 have hb0:Below w.heap.size w w0:=by rw [← kF];exact aA
 have hA:aB w0 w.heap.size #[.slice am n cam] 44:=by rw [← kF];exact aL
 have hB:aB w0 (w.heap.size+1) t.cells 38:=by rw [← kF];exact aL
 have hr0:aB w0 (w.heap.size+1+1) #[.string ⟨#[]⟩,.string ⟨#[]⟩,.string ⟨#[]⟩,.string ⟨#[]⟩,.string ⟨#[]⟩,.string ⟨#[]⟩] 38:=by rw [← kF];exact aL
 obtain ⟨er,Dt⟩:∃ y,Hid (iV m t=y):=⟨_,zh rfl⟩
 obtain ⟨g,Eg⟩:∃ y:light.aY,Hid (oJ m t=y):=⟨_,zh rfl⟩
 have hat:=JD 48 #[.pointer (some ⟨w.heap.size,0,none⟩),.pointer (some ⟨w.heap.size+1,0,none⟩)] (iV m t) (oJ m t) w0
  (fun W hW=>Qj _ _ _ m t W (hA.later hW) ((hm.later hb0).later hW) (hB.later hW) ((ht.later hb0).later hW)) (fun args W=>enters_of Tryz.func48 zk rfl args W)
 rw [Dt.out,Eg.out] at hat ⊢
 have HAT:=zh hat
 obtain ⟨gg,Egg⟩:∃ y:light.aY,Hid ((if er=0 then g else qz)=y):=⟨_,zh rfl⟩
 obtain ⟨⟨a1,a2⟩,⟨a3,a4⟩,⟨a5,a6⟩⟩:=t
 unfold light.aY.cells at kF
 simp only at kF
 have HR:Hid (fO w er g=fun e w'=>Below w.heap.size w w'∧e= .returned (.tuple #[gg.v,.int .i64 er])):=zh (by unfold fO;rw [Egg.out])
 have HR0:Hid (fO w0 er g=fun e w'=>Below w0.heap.size w0 w'∧e= .returned (.tuple #[gg.v,.int .i64 er])):=zh (by unfold fO;rw [Egg.out])
 rw [HR.out]
 rw [HR0.out] at HAT
 obtain ⟨⟨g1,g2⟩,⟨g3,g4⟩,⟨g5,g6⟩⟩:=gg
 unfold light.aY.v light.aY.cells at HAT ⊢
 clear hat ht hm hA hB HR HR0 Egg Dt Eg En
 go_enter Tryz.func20,Tryz.ntmps20
 go_wp2_with fail
 clear kF
 refine HAT.out.mono ?_
 rintro e w1 ⟨hb1,rfl⟩
 have hr1:=hr0.later hb1
 have cr:=hr1.cell
 have fr:=hr1.free
 clear HAT
 go_wp2_with fail
 refine aP rfl rfl ((((((hr1.set 0 _).set 1 _).set 2 _).set 3 _).set 4 _).set 5 _) Tryz.underlying38 rfl zk ?_
 have hw:=Bt hb0 hb1
 have hsz:w.heap.size≤w.heap.size+1+1:=by omega
 exact ⟨(((((hw.setCell hsz _).setCell hsz _).setCell hsz _).setCell hsz _).setCell hsz _).setCell hsz _,rfl⟩
end Go.Proofs.adapt
namespace Go.Proofs.YtddblpggomphpaaGreatDoor
open Go Go.RowKit Go.Proofs
theorem chunks {α:Type} (c:Nat):∀ (n:Nat) (cs:List α),cs.length=n*c→cs=(List.range n).flatMap fun i=>(cs.drop (i*c)).take c
 | 0,cs,h=>by
  have:cs=[]:=List.length_eq_zero_iff.1 (by simpa using h)
  subst this;rfl
 | n+1,cs,h=>by
  have hd:(cs.drop c).length=n*c:=by rw [List.length_drop,h,Nat.succ_mul];omega
  have ih:=chunks c n (cs.drop c) hd
  rw [List.range_succ_eq_map,List.flatMap_cons,List.flatMap_map]
  simp only [Nat.zero_mul,List.drop_zero]
  conv=>lhs;rw [← List.take_append_drop c cs]
  congr 1
  conv=>lhs;rw [ih]
  congr 1
  funext i
  rw [List.drop_drop,Nat.succ_mul,Nat.add_comm]
theorem vw {H:Type} {enc:TypeId × Value→H} {P:Program} {w:World} {base:Nat} {sp:Nat→Bool} {held:Bool} {fuel:Nat} {t e:TypeId} {n:Nat} {k:IntKind} {cs:List Value} {p:List MemPlace}
  (D:List Int→DataW H) (UR:List (List Int)) (ht:P.underlying t=some (.array n e)) (hc:P.cellsOf t=n*P.cellsOf e)
  (hin:∀ fuel cs zs p,DataW.trod enc P w base sp held fuel e cs=some (D zs,p)→cs=zs.map fun z=>Value.int k z)
  (h:DataW.trod enc P w base sp held fuel t cs=some (.agg (UR.map D),p)):cs=UR.flatten.map fun z=>Value.int k z:=by
 obtain ⟨xs,m,rfl,hx,hl,hn,hel⟩:=DataW.trod_array ht h
 simp only [Prod.mk.injEq,DataW.agg.injEq] at hx
 have hz:UR.length=n:=by
  have:=congrArg List.length hx.1
  simpa [hn] using this
 have hk:∀ i (h:i<UR.length),(cs.drop (i*P.cellsOf e)).take (P.cellsOf e)=UR[i].map fun z=>Value.int k z:=fun i hi=>by
  have h1:=hel i zo
  have hxi:i<xs.length:=by omega
  rw [List.getElem?_eq_getElem hxi] at h1
  have h2:xs[i].1=D UR[i]:=by
   have h3:=congrArg (·[i]?) hx.1
   simp only [List.getElem?_map,List.getElem?_eq_getElem hi,List.getElem?_eq_getElem hxi,Option.map_some,Option.some.injEq] at h3
   exact h3.symm
  exact hin m _ _ xs[i].2 (by rw [h1,← h2])
 rw [chunks (P.cellsOf e) n cs (by rw [hl,hc]),List.map_flatten,← hz]
 have hr:UR=(List.range UR.length).map fun i=>UR.getD i []:=by
  apply List.ext_getElem
  ·simp
  ·intro i h1 h2;simp [h1]
 conv=>rhs;rw [hr]
 rw [List.map_map,List.flatMap_def]
 congr 1
 refine List.map_congr_left fun i hi=>?_
 have hi':i<UR.length:=List.mem_range.1 hi
 rw [hk i hi']
 simp [hi']
theorem aH6 : Tryz.prog.globalNamed "internal/strconv.uint64pow10" = some 1 := by kernel_rfl
theorem ae7 : Tryz.prog.globalNamed "verdigris/adapt.cones" = some 0 := by kernel_rfl
theorem aC0:(Tryz.prog.globals[1]?).map (·.type)=some 290:=by kernel_rfl
theorem YQ:(Tryz.prog.globals[0]?).map (·.type)=some 117:=by kernel_rfl
theorem aB9:Tryz.prog.underlying 290=some (.array 20 181):=by kernel_rfl
theorem Vj:Tryz.prog.underlying 117=some (.array 4 116):=by kernel_rfl
theorem Vk:Tryz.prog.underlying 116=some (.array 3 115):=by kernel_rfl
theorem Vl:Tryz.prog.underlying 115=some (.array 3 3):=by kernel_rfl
theorem VH {W:World} (h:laidMetH Tryz.prog Rows.adaptKnownRow.laid W):pR.Pow W∧adapt.kU W:=by
 have h' : laidMetH Tryz.prog [("math/bits.deBruijn32tab", Rows.laid_math_bits_deBruijn32tab), ("math/bits.deBruijn64tab", Rows.laid_math_bits_deBruijn64tab), ("internal/strconv.uint64pow10", Rows.laid_internal_strconv_uint64pow10), ("verdigris/adapt.cones", Rows.laid_verdigris_adapt_cones)] W := h
 clear h
 rw [MakeChecks.laidMetH_plain _ _ _ zk] at h'
 have h2:=laidMet.tail (laidMet.tail h')
 refine ⟨Lib.tabIs_of_head aH6 aC0 aB9 zk zk zk h2,?_⟩
 obtain ⟨ps,⟨g,t,cs,fuel,p,q,hg,ht,hvar,hd, -, -⟩, -⟩:=laidMet.tail h2
 obtain rfl:=Option.some.inj (ae7.symm.trans hg)
 obtain rfl:=Option.some.inj (YQ.symm.trans ht)
 have e:cs.toList=adapt.lW.map fun z=>Value.int .i64 z:=by
  refine vw (D:=fun l:List Int=>DataW.agg [Lib.tabData .i64 (l.take 3),Lib.tabData .i64 ((l.drop 3).take 3),Lib.tabData .i64 (l.drop 6)])
   [adapt.lW.take 9,(adapt.lW.drop 9).take 9,(adapt.lW.drop 18).take 9,adapt.lW.drop 27] Vj zk (fun fuel cs zs p h=>?_) hd
  have h3:=vw (k:=.i64) (D:=fun l:List Int=>Lib.tabData .i64 l) [zs.take 3,(zs.drop 3).take 3,zs.drop 6] Vk zk (fun fuel cs zs p h=>Lib.cells_of_tab Vl zk zk zk h) h
  rw [h3]
  congr 1
  have e1:zs.drop 6=(zs.drop 3).drop 3:=by rw [List.drop_drop]
  simp only [List.flatten_cons,List.flatten_nil,List.append_nil]
  rw [e1,List.take_append_drop,List.take_append_drop]
 show W.var? Tryz.prog "verdigris/adapt.cones" = _
 rw [hvar,← e]
end Go.Proofs.YtddblpggomphpaaGreatDoor
namespace Go.Proofs.YtddblpggomphpaaGreatDoor
open Go Go.ChangeShapes Go.WideShapes Go.RowKit Go.Proofs
theorem Fh {n:Int} (h:(Lit.int .u16 n).wf=true):0≤n∧n≤65535:=by
 simp [Lit.wf,IntKind.min,IntKind.max,IntKind.signed,IntKind.bits] at h
 omega
theorem MP {n:Int} (h:(Lit.int .u8 n).wf=true):0≤n∧n≤255:=by
 simp [Lit.wf,IntKind.min,IntKind.max,IntKind.signed,IntKind.bits] at h
 omega
def Col (v:Value) (a b c:Int):Prop:=v= .agg #[.int .u16 a,.int .u16 b,.int .u16 c]∧(0≤a∧a≤65535)∧(0≤b∧b≤65535)∧(0≤c∧c≤65535)
theorem sJ {H:Type} {enc:TypeId × Value→H} {W:World} {b0 base:Nat} {sp:Nat→Bool} {held:Bool} {v:Value} {d:DataW H} {p:List MemPlace}
  (hval:Value.okWide Tryz.prog W .any b0 24 v) (h:DataW.Trod enc Tryz.prog W base sp held 24 v d p) :
  ∃ a b c,Col v a b c∧p=[]∧∀ (W':World) (base':Nat) (sp':Nat→Bool) (held':Bool),DataW.Trod enc Tryz.prog W' base' sp' held' 24 v d []:=by
 have ue:Tryz.prog.underlying 22=some (.int .u16):=Tryz.underlying22
 have ut:Tryz.prog.underlying 24=some (.array 3 22):=Tryz.underlying24
 have ce:Tryz.prog.cellsOf 22=1:=by kernel_rfl
 have ct:Tryz.prog.cellsOf 24=3:=by kernel_rfl
 obtain ⟨cs,rfl,hsz, -⟩:∃ cs,v= .agg cs∧cs.size=Tryz.prog.cellsOf 24∧Row.okWide Tryz.prog W .any b0 24 cs:=by
  simpa [Value.okWide,ut] using hval
 rw [ct] at hsz
 obtain ⟨l⟩:=cs
 obtain ⟨c0,c1,c2,rfl⟩:∃ c0 c1 c2,l=[c0,c1,c2]:=by
  match l,hsz with
  | [c0,c1,c2],_=>exact ⟨c0,c1,c2,rfl⟩
 obtain ⟨fuel,hf⟩:=h
 obtain ⟨y0,y1,y2,m,hx,hy0,hy1,hy2⟩:=trod_array3 ut ce hf
 obtain ⟨x0,e0,rfl,w0⟩:=DataW.trod_int ue hy0
 obtain ⟨x1,e1,rfl,w1⟩:=DataW.trod_int ue hy1
 obtain ⟨x2,e2,rfl,w2⟩:=DataW.trod_int ue hy2
 simp at e0 e1 e2
 subst e0 e1 e2
 simp only [Prod.mk.injEq] at hx
 obtain ⟨rfl,rfl⟩:=hx
 refine ⟨x0,x1,x2,⟨rfl,Fh w0,Fh w1,Fh w2⟩,by simp,fun W' base' sp' held'=>⟨2,?_⟩⟩
 have r3:List.range 3=[0,1,2]:=rfl
 show DataW.trod enc Tryz.prog W' base' sp' held' (1+1) 24 [.int .u16 x0,.int .u16 x1,.int .u16 x2]=_
 unfold DataW.trod
 rw [ut]
 simp [r3,ce,ct,trod_int_mk 0 ue w0,trod_int_mk 0 ue w1,trod_int_mk 0 ue w2]
end Go.Proofs.YtddblpggomphpaaGreatDoor
