/- Lemmas for the proof. No condition. -/
import Derived.Test.YtfhappbmgghgdaaGreatDoorWB01
import Derived.Test.YtfhappbmgghgdaaGreatDoorWB03
import Derived.Test.YtfhappbmgghgdaaGreatDoorWB04
import Derived.Test.YtfhappbmgghgdaaGreatDoorWB07
import Derived.Test.YtfhappbmgghgdaaGreatDoorWB09
import Derived.Test.YtfhappbmgghgdaaGreatDoorWB10
import Derived.Deep.Cut
set_option linter.unusedVariables false
set_option linter.unusedSimpArgs false
set_option maxRecDepth 100000
set_option maxHeartbeats 16000000
namespace Go.Proofs.matrix
open Go Go.RowKit Go.SW Go.Num Go.Mem Go.Proofs Go.Dec Go.cK
def Cv (m:RM):Int × Bool × IM:=elim m.length 0 (ext (m.map dX)) 1 false
def Zy (m:RM) (i c:Nat):Rat:=(((Cv m).2.2.at i (m.length+c)*((bI (m.getD c []):Nat):Int):Int):Rat) / (((Cv m).1:Int):Rat)
def DT (m:RM):RM:=(List.range m.length).map fun i=>(List.range m.length).map (Zy m i)
def VA (m:RM):Int:=if (Cv m).1=0 then 7 else if vD (DT m) then 0 else 6
theorem vT {m:RM} {n:Nat} (h:m.ok n):IM.fits (m.map dX) m.length n 1000:=by
 obtain ⟨h1,h2,h3,h4,h5⟩:=h;refine ⟨by simp,fun i hi=>?_,fun i j=>?_⟩
 ·rw [getD_lt (show i<(m.map dX).length by simpa using hi)];simp only [List.getElem_map];have:=(h5 m[i] (List.getElem_mem _)).1;simp [dX,this]
 ·unfold IM.at
  by_cases hi:i<m.length
  ·rw [getD_lt (show i<(m.map dX).length by simpa using hi)];simp only [List.getElem_map];obtain ⟨k1,k2⟩:=h5 m[i] (List.getElem_mem _);exact lJ k2 zo j
  ·have e:(m.map dX).getD i []=[]:=by rw [List.getD_eq_getElem?_getD,List.getElem?_eq_none (by simp;omega)];rfl
   rw [e];simp [iB]
theorem Sv {m:RM} (h:m.ok m.length):(Cv m).2.2.fits m.length (2*m.length) 16015∧sz 1000000000 (Cv m).1.natAbs≤16015:=by
 have h1:sz 1000000000 (1:Int).natAbs≤1000:=by
  have:sz 1000000000 (1:Int).natAbs=1:=by decide+kernel
  omega
 obtain ⟨k1,k2⟩:=wK m.length 0 1000 (ext (m.map dX)) 1 false (Ia (vT h) zo) h1 zo;have hg:=Hu (S:=1000) (m:=m.length) h.2.1;exact ⟨k1.mono hg,Nat.le_trans k2 hg⟩
theorem nY.read {w:World} {B off n c:Nat} {rs:IM} (h:nY w B off n (fun i=>rs.getD i [])) {S:Nat} (hf:rs.fits n c S) {i j:Nat} (hi:i<n) (hj:j<c) :
  ∃ b o cc pa l ca,B<w.heap.size∧w.cell? ⟨B,off+i,none⟩=some (.slice (some ⟨b,o,none⟩) c cc)∧b<w.heap.size∧w.cell? ⟨b,o+j*2,none⟩=some (.slice pa l ca)∧w.cell? ⟨b,o+j*2+1,none⟩=some (.bool (decide (rs.at i j<0)))∧aK w (.slice pa l ca) (rs.at i j).natAbs:=by
 obtain ⟨arr,h1,h2⟩:=h;obtain ⟨v,k1,k2⟩:=h2 i hi;have hl:(rs.getD i []).length=c:=hf.2.1 i hi;obtain ⟨a,cc,rfl,k4,k5,k6⟩:=k2.read;obtain ⟨b,o,pa,l,ca,rfl,g1,g2,g3,g4⟩:=k6 j (by rw [hl];exact hj);rw [hl] at k1;exact ⟨b,o,cc,pa,l,ca,h1.lt,(h1.cell _).trans k1,g1,g2,g3,g4⟩
theorem Fe (va:Value) (ma:RM) (w:World) (ha:aN w va ma.fr) (XA:ma.ok ma.length) (ht:oO.Pow w) :
  Calls Tryz.prog 37 #[va] w (aV w (VA ma) (DT ma).fr):=by
 have xS:=XA;obtain ⟨a1,a4,b1,b4,iA⟩:=XA;obtain ⟨ba,qD,Ik,a0,cap0,rfl,xU,vB⟩:=aN.head ha zo
 have XH:(ma.headD []).length=ma.length:=by
  cases ma with
  | nil=>simp at a1
  | cons r t=>exact (iA r zi).1
 rw [XH] at vB;have sD:=zh (fun w' hx=>dw _ ma.fr w' (ha.later hx));rw [xS.Pn] at sD;have I8:=zh (fun w' hx=>rC _ ma w' (ha.later hx) a4 (fun r hr=>⟨by have:=(iA r hr).1;omega,(iA r hr).2⟩));have hfit:=vT xS;have JR:=Sv xS;have hext:=Ia hfit zo;have HXT:=zh (fun v w' (hx:xK w' v (ma.map dX))=>H9 v (ma.map dX) ma.length w' hx zi hfit.2.1 a1 a4);have Xh:=zh (fun B w' (hx:nY w' B 0 ma.length (fun i=>(ext (ma.map dX)).getD i []))=>uS B 0 ma.length (2*ma.length) ma.length 1000 (ext (ma.map dX)) w' hx hext a1 a4 zo zo zo zo (Nat.le_refl _) zo);obtain ⟨EL,IQ⟩:∃ y,Hid (Cv ma=y):=⟨_,zh rfl⟩;have ap7:elim ma.length 0 (ext (ma.map dX)) 1 false=EL:=IQ.out;rw [ap7] at Xh;rw [IQ.out] at JR;obtain ⟨piv,turned,W⟩:=EL;obtain ⟨E,EE⟩:∃ E:Nat→Nat→Rat,E=Zy ma:=⟨_,rfl⟩
 obtain ⟨er,Xf⟩:∃ y:Int,Hid ((if piv=0 then 7 else if vD (DT ma) then 0 else 6)=y):=⟨_,zh rfl⟩
 have her:VA ma=er:=by
  unfold VA;rw [IQ.out];exact Xf.out
 rw [her]
 have HEE:Hid (∀ i c,((W.at i (ma.length+c)*((bI (ma.getD c []):Nat):Int):Int):Rat) / ((piv:Int):Rat)=E i c):=zh fun i c=>by
  rw [EE];unfold Zy;rw [IQ.out]
 have TW:Hid (∀ i,i<ma.length→(DT ma).getD i []=(List.range ma.length).map (E i)):=zh fun i hi=>by
  rw [EE];unfold DT;simp [hi]
 have KE:Hid ((DT ma).length=ma.length):=zh (by simp [DT]);obtain ⟨MM,EMM⟩:∃ y:RM,Hid (DT ma=y):=⟨_,zh rfl⟩;rw [EMM.out] at Xf TW KE ⊢;have HAR:=zh iA;have HSZ:=zh JR;have HT:=zh ht;obtain ⟨n,hna⟩:∃ y,ma.length=y:=⟨_,rfl⟩;have ME:=zh hna;clear ha xS iA XH ht EE EMM her ap7 IQ hfit JR hext;rw [hna] at sD I8 HXT Xh a1 a4 b1 b4 TW KE HAR HSZ HEE vB ⊢;clear hna;have Bh:0<n:=by omega
 go_enter Tryz.func37,Tryz.ntmps37
 go_wp2_with fail
 refine (sD.out _ (Below.refl _ _)).mono ?_;rintro e v1 ⟨rfl,hc1⟩;have c1:=(hc1.cell (p:=⟨ba,qD,none⟩) xU).trans vB;go_wp2_with fail
 refine (I8.out _ hc1).mono ?_;rintro e v2 ⟨vt,rfl,hc2,htab⟩;obtain ⟨Xz,XE,Tk,Qw,QM,Tj,rfl,hra,hma⟩:=htab;have Ky:=zh hra;have Fh:=zh hma;have hw2:Below w.heap.size w v2:=Bt hc1 hc2;clear hra hma c1;go_wp2_with fail
 have hx2:Below v2.heap.size v2 (v2.alloc (.cells #[.slice Xz XE Tk,.slice Qw QM Tj] 105)):=ah;refine (HXT.out _ _ (Ky.out.later hx2)).mono ?_;rintro e v3 ⟨B,rfl,hBv,hc3,hrb⟩;have HRB:=zh hrb;clear hrb;go_wp2_with fail
 refine (Xh.out _ _ HRB.out).mono ?_;rintro e v4 ⟨vp,rfl,hN4,hvp,hrb⟩;have h34:Below (v2.alloc (.cells #[.slice Xz XE Tk,.slice Qw QM Tj] 105)).heap.size (v2.alloc (.cells #[.slice Xz XE Tk,.slice Qw QM Tj] 105)) v4:=fM.toBelow hN4 hc3 hBv;have h24:Below v2.heap.size v2 v4:=Bt hx2 h34;have hx4:=au.later (au.new v2 #[.slice Xz XE Tk,.slice Qw QM Tj] 105) h34;obtain ⟨Ch,N9,CB,rfl,Pt⟩:=hvp;replace Pt:=zh Pt;replace HRB:=zh hrb;have HX4:=zh hx4;replace Fh:=zh (Fh.out.later h24);have hw4:Below w.heap.size w v4:=Bt hw2 h24;clear hrb hx4 hN4 hc3 hx2 h34 h24 hc1 hc2 hw2 Ky HXT Xh sD I8;go_wp2_with fail
 have hx5:Below v4.heap.size v4 (v4.alloc (.cells #[.slice Ch N9 CB,.bool (decide (piv<0))] 112)):=ah;refine (fQ _ _ _ (Pt.out.later hx5)).mono ?_;rintro e v5 ⟨rfl,rfl⟩
 by_cases hp0:piv=0
 ·have b0:decide (piv.natAbs=0)=true:=by simp [hp0]
  have her:er=7:=by rw [← Xf.out,if_pos hp0]
  have HE7:=zh her;rw [b0];clear her hp0 b0;go_wp2_with fail
  go_ret2
  rw [HE7.out];exact aV.no (Bt hw4 hx5) zd
 ·have b0:decide (piv.natAbs=0)=false:=by simp [hp0]
  have CV:=zh hp0;have av3:Hid ((if vD MM then 0 else 6)=er):=zh (by rw [← Xf.out,if_neg hp0]);rw [b0];clear hp0 b0;obtain ⟨Wp,G9,hmk⟩:=zD n zo;have FV:=zh G9;clear G9;go_wp2_with fail
  obtain ⟨vb,Pz⟩:∃ y,v4.alloc (.cells #[.slice Ch N9 CB,.bool (decide (piv<0))] 112)=y:=⟨_,rfl⟩;rw [Pz] at hx5;have hM:v4.heap.size+1=vb.heap.size:=by rw [← Pz];simp
  have WW:=zh (HX4.out.later hx5);have HX8:Hid (au vb v4.heap.size #[.slice Ch N9 CB,.bool (decide (piv<0))] 112):=zh (by rw [← Pz];exact aT);rw [Pz,hM];have hwb:Below w.heap.size w vb:=Bt hw4 hx5;have au9:=zh (Pt.out.later hx5)
  have an7:nY vb B 0 n (fun i=>W.getD i []):=by
   obtain ⟨arr,k1,k2⟩:=HRB.out;exact ⟨arr,k1.later hx5,fun i hi=>by obtain ⟨v,g1,g2⟩:=k2 i hi;exact ⟨v,g1,g2.later hx5⟩⟩
  have au7:=zh an7;obtain ⟨hn2,hr2⟩:=mZ (Fh.out.later hx5);rw [List.length_map,ME.out] at hn2;replace hn2:=hn2.symm;subst hn2;have HR2:=zh hr2;have HM:=zh (fK.yT (f:=fun i=>((List.range n).map (E i)).map Fr.of) (au.new vb Wp 29) FV.out);have h0b:Below vb.heap.size vb (vb.alloc (.cells Wp 29)):=ah;obtain ⟨X6,EX6⟩:∃ y,v2.heap.size=y:=⟨_,rfl⟩;obtain ⟨X8,EX8⟩:∃ y,v4.heap.size=y:=⟨_,rfl⟩;rw [EX6] at WW ⊢;rw [EX8] at HX8 ⊢;have l6:X6<vb.heap.size:=WW.out.lt;have l8:X8<vb.heap.size:=HX8.out.lt;have csz:=hwb.size;clear hr2 an7 Fh HRB Pt HX4 hM hw4 hx5 EX6 EX8 hmk FV Pz;obtain ⟨SI,RU,hmk⟩:=zF n zo;have FV:=zh RU;clear RU
  go_loopw [45] (fun iv wr=>∃ r:Nat,iv= .int .i64 (r:Int)∧r≤n∧Hid (fK wr vb.heap.size n r (fun i=>((List.range n).map (E i)).map Fr.of))∧Hid (∀ i,i<r→∀ c,c<n→iR (E i c)=true)∧Below vb.heap.size vb wr) (fun iv _=>n - (intOf iv).toNat)
  case atStart=>exact ⟨0,rfl,by omega,HM,zh (fun i h=>by omega),h0b⟩
  case round =>
   clear HM h0b;obtain ⟨r,rfl,hr,HM,HK,hb⟩:=hrel;obtain ⟨wo,hwo⟩:∃ y,y=wr:=⟨_,rfl⟩;subst hwo;have lM:=HM.out.lt
   rcases Nat.lt_or_ge r n with hlt|hge
   ·have hlt2:(r:Int)<(n:Int):=by omega
    obtain ⟨⟨y1,BO⟩,fy⟩:=HM.out.cell hlt;obtain ⟨rZ,bM,hsz, -⟩:=HM.out;have Ut:=zh bM;have hrs:r<rZ.size:=by omega
    clear bM hsz;go_wp2_with fail
    clear BO fy;have hGM:wo.heap.size≠vb.heap.size:=by omega
    have Ul:vb.heap.size≠wo.heap.size:=by omega
    have hBn:au ((wo.setCell ⟨vb.heap.size,r,none⟩ (.slice (some ⟨wo.heap.size,0,none⟩) n n)).alloc (.cells SI 59 (0,0))) wo.heap.size SI 59:=au.qE zi;have HF:=zh (show Fill _ wo.heap.size 59 n 0 (vN fun i=>Fr.of (E r i)) from ⟨SI,hBn,FV.out,fun i hi=>by omega⟩);have HB:=zh ((Ut.out.set r (.slice (some ⟨wo.heap.size,0,none⟩) n n)).alloc (.cells SI 59 (0,0)));have HN:=zh (((fM.refl wo vb.heap.size).set r (.slice (some ⟨wo.heap.size,0,none⟩) n n)).below (w':=(wo.setCell ⟨vb.heap.size,r,none⟩ (.slice (some ⟨wo.heap.size,0,none⟩) n n)).alloc (.cells SI 59 (0,0))) ah);clear hBn
    go_loopw [58] (fun iv wr=>∃ c:Nat,iv= .int .i64 (c:Int)∧c≤n∧Hid (Fill wr wo.heap.size 59 n c (vN fun i=>Fr.of (E r i)))∧Hid (∀ i,i<c→iR (E r i)=true)∧Hid (au wr vb.heap.size (rZ.setIfInBounds r (.slice (some ⟨wo.heap.size,0,none⟩) n n)) 29)∧Hid (fM wo wr vb.heap.size)) (fun iv _=>n - (intOf iv).toNat)
    case atStart=>exact ⟨0,rfl,by omega,HF,zh (fun i h=>by omega),HB,HN⟩
    case round =>
     clear HF HB HN;obtain ⟨c,rfl,hcn,HF,HKc,HB,HN⟩:=hrel
     rcases Nat.lt_or_ge c n with hcl|hcl
     ·have Od:(c:Int)<(n:Int):=by omega
      have hbv:Below vb.heap.size vb wr:=HN.out.toBelow hb (Nat.le_refl _);obtain ⟨b1,o1,cc1,p1,m1,d1,lB,e1,e2,e3,e4,e5⟩:=nY.read au7.out HSZ.out.1 hlt (show n+c<2*n by omega);obtain ⟨b2,o2,p2,m2,d2,rfl,f2,f3,f4⟩:=HR2.out c (by rw [List.length_map,ME.out];exact hcl);simp only [List.getElem_map] at f4;rw [Nat.zero_add] at e1;have q0:=(hbv.cell (p:=⟨B,r,none⟩) lB).trans e1;have q1:=(hbv.cell (p:=⟨b1,o1+(n+c)*2,none⟩) e2).trans e3;have q1b:=(hbv.cell (p:=⟨b1,o1+(n+c)*2+1,none⟩) e2).trans e4;have q2:=(hbv.cell (p:=⟨b2,o2+c,none⟩) f2).trans f3;have x6:=(WW.out.later hbv).cell;have x8:=(HX8.out.later hbv).cell;have G1:=zh (e5.later hbv);have G2:=zh (f4.later hbv);have G3:=zh (au9.out.later hbv);have l0:=Nat.lt_of_lt_of_le lB hbv.size;have l1:=Nat.lt_of_lt_of_le e2 hbv.size;have l2:=Nat.lt_of_lt_of_le f2 hbv.size;have z6:=Nat.lt_of_lt_of_le l6 hbv.size
      have z8:=Nat.lt_of_lt_of_le l8 hbv.size;obtain ⟨j,hj⟩:∃ j,n+c=j:=⟨_,rfl⟩;have ej:(n:Int)+(c:Int)=(j:Int):=by omega
      have hj2:j<2*n:=by omega
      have hj3:(j:Int)<2*(n:Int):=by omega
      have hwj:IntKind.i64.wrap (j:Int)=(j:Int):=by rw [IntKind.wrap_i64];omega
      have hcm:c<ma.length:=by rw [ME.out];exact hcl
      have hcc:=HAR.out ma[c] (List.getElem_mem _);have hee:=HEE.out r c;rw [hj,getD_lt hcm] at hee;rw [hj] at q1 q1b G1;have Xg:=zh hee;have hlc:=hcc.1;have hkc:=lK ma[c] hcc.2;have hk1:=HSZ.out.1.2.2 r j;have hk2:=HSZ.out.2;have hsm:=mh (W.at r j) (bI ma[c]);clear lB e1 e2 e3 e4 e5 f2 f3 f4 hcc hee hj WW HX8 au7 HR2 au9;generalize ma[c]=cc at *;clear hcm;generalize W.at r j=x at *;generalize bI cc=dc at *;obtain ⟨z,EZ⟩:∃ y:Int,Hid (x*((dc:Nat):Int)=y):=⟨_,zh rfl⟩;rw [EZ.out] at Xg hsm;have KX:=zh (show sz 1000000000 x.natAbs≤549755813888 by omega);have KD:=zh (show sz 1000000000 dc≤549755813888 by omega);have KZ:=zh (show sz 1000000000 z.natAbs≤549755813888 by omega);have KP:=zh (show sz 1000000000 piv.natAbs≤549755813888 by omega);clear hlc hkc hk1 hk2 hsm;have HW:=Xg;obtain ⟨q,EQ⟩:∃ x:Rat,Hid (E r c=x):=⟨_,zh rfl⟩;rw [EQ.out] at HW
      have Uo:=zh (HT.out.later (Bt hwb hbv));have lG:=HF.out.lt;have lMr:=HB.out.lt;go_wp2_with fail
      refine aD [(.pure,0),(.pure,1),(.pure,2),(.read,3),(.pure,4),(.pure,5),(.pure,6),(.pure,7),(.read,8),(.pure,9),(.read,10),(.pure,11),(.pure,12),(.read,13),(.read,15),(.ext,14),(.ext,16),(.pure,17),(.pure,18),(.pure,19),(.alloc #[.string ⟨#[]⟩,.string ⟨#[]⟩] 59,20),(.fin,21),(.fin,22)] zk zk zR zP ?_;refine zV ?_;refine aG rfl rfl (fun w31 Ae J hJ=>?_);go_simp;replace G1:=zh (aK.carry G1.out aI Ae);replace G2:=zh (aK.carry G2.out aI Ae);replace G3:=zh (aK.carry G3.out aI Ae);refine ((mo _ _ x dc _ (aS.aO aI) aI KX.out KD.out).mono (by rw [EZ.out];exact fun _ _ h=>h)).mono ?_;rintro e v31 ⟨v,rfl,hc31,hv⟩;obtain ⟨al0,lHz,as4,rfl,Hz⟩:=hv;replace Hz:=zh Hz;replace G1:=zh (aK.later G1.out hc31);replace G2:=zh (aK.later G2.out hc31);replace G3:=zh (aK.later G3.out hc31);refine hJ _ _ hc31 ?_;clear hJ J
      have hq2:iR q=true∨iR q=false:=by cases iR q<;>simp
      rcases hq2 with hq2|hq2
      ·have CU:Hid (Fr.res (cK.wr q)= .tuple #[.agg #[.string (Fr.of q).n,.string (Fr.of q).d],.int .i64 0]):=zh (by unfold cK.wr;rw [if_pos hq2];rfl);have MC:=zh hq2;clear hq2;obtain ⟨s1,O8⟩:∃ x:ByteArray,Hid ((Fr.of q).n=x):=⟨_,zh rfl⟩;obtain ⟨s2,O7⟩:∃ x:ByteArray,Hid ((Fr.of q).d=x):=⟨_,zh rfl⟩;rw [O8.out,O7.out] at CU;refine aG rfl rfl (fun w33 Z5 J hJ=>?_);go_simp;refine ((jm _ _ z piv _ (aS.aO aI) (aS.aO aI) CV.out KZ.out KP.out (Uo.out.later ah)).mono (by rw [HW.out,CU.out];exact fun _ _ h=>h)).mono ?_;rintro e v33 ⟨rfl,JW⟩;refine hJ _ _ JW ?_;clear hJ J;refine zV ?_;refine aX rfl (fun b20 w17 ZE Co ZI ar7 kD=>?_);go_simp;replace kD:au _ _ _ _:=kD;have ar2:w.heap.size≤b20:=(by first|omega|exact Nat.le_trans (Below.size (B:=w.heap.size) ah) Co);refine aL [_,_] rfl (fun Uh BM=>?_)
       replace kD:=au.later (kD) BM;replace SV:=kD.cell;replace Sn:=kD.free;replace Rf:=kD.lt;have wE:Below wr.heap.size wr Uh:=ah;have Z8:wr.heap.size≤b20:=Co;replace HF:=zh (HF.out.zI wE);replace HB:=zh (HB.out.later wE);replace HN:=zh (HN.out.below wE);have ne1:wo.heap.size≠b20:=by omega
       have ne2:vb.heap.size≠b20:=by omega
       have ge1:wo.heap.size≤b20:=by omega
       clear q0 q1 q1b q2 x6 x8 wE Co Uo;go_wp2_with fail
       obtain ⟨UK,E19⟩:∃ y,(Uh.setCell ⟨b20,0,none⟩ (.string s1)).setCell ⟨b20,1,none⟩ (.string s2)=y:=⟨_,rfl⟩;replace HF:=zh ((HF.out.other (a:=⟨b20,0,none⟩) (.string s1) ne1).other (a:=⟨b20,1,none⟩) (.string s2) ne1);replace HB:=zh ((HB.out.setOther (a:=⟨b20,0,none⟩) (.string s1) ne2).setOther (a:=⟨b20,1,none⟩) (.string s2) ne2);replace HN:=zh ((HN.out.gG ge1 0 (.string s1)).gG ge1 1 (.string s2));have zN:=(kD.set 0 (.string s1)).set 1 (.string s2);simp only [List.setIfInBounds_toArray,List.set_cons_zero,List.set_cons_succ] at zN;rw [E19] at HF HB HN zN ⊢;clear E19 kD SV Sn Rf;have c17:=zN.cell;have l17:=zN.lt;have cM:=HB.out.cell r;rw [Array.getElem?_setIfInBounds,if_pos rfl,if_pos hrs] at cM;have lM9:=HB.out.lt;refine aD [(.pure,0),(.pure,1),(.pure,2),(.read,3),(.pure,4),(.read,5),(.pure,6),(.fin,7)] zk zk zR zP ?_;refine zV ?_
       refine aL [_] rfl (fun w20 tF=>?_);have DY:Below UK.heap.size UK w20:=ah;replace HF:=zh (HF.out.zI DY);replace HB:=zh (HB.out.later DY);replace HN:=zh (HN.out.below DY);obtain ⟨⟨y1,BO⟩,⟨y2,Oq⟩,fy⟩:=HF.out.cells hcl;have ay3:=HF.out.lt;clear tF DY c17 l17 cM lM9 zN;go_wp2_with fail
       go_roundw
       case rel =>
        refine ⟨c+1,by go_num,by omega,zh (HF.out.step hcl (fun _ _ _ h=>h) ⟨?_,?_⟩),zh fun i hi=>?_,zh ((HB.out.setOther _ Ul).setOther _ Ul),zh ((HN.out.gG (Nat.le_refl _) _ _).gG (Nat.le_refl _) _ _)⟩
        ·show Value.string s1= .string (Fr.of (E r c)).n
         rw [EQ.out,O8.out]
        ·show Value.string s2= .string (Fr.of (E r c)).d
         rw [EQ.out,O7.out]
        ·rcases Nat.lt_or_ge i c with h|h
         ·exact HKc.out i h
         ·obtain rfl:i=c:=by omega
          rw [EQ.out];exact MC.out
       case measure=>exact zM
      ·have CU:Hid (Fr.res (cK.wr q)= .tuple #[.agg #[.string ⟨#[]⟩,.string ⟨#[]⟩],.int .i64 6]):=zh (qb hq2)
       have hbad:vD MM=false:=by
        unfold vD;rw [List.all_eq_false];refine ⟨MM.getD r [],?_,?_⟩
        ·rw [getD_lt (show r<MM.length by rw [KE.out];exact hlt)];exact List.getElem_mem _
        ·rw [TW.out r hlt];simp only [List.all_map,Bool.not_eq_true];rw [List.all_eq_false];exact ⟨c,List.mem_range.2 hcl,by simp only [Function.comp];rw [EQ.out,hq2];simp⟩
       have her:er=6:=by rw [← av3.out,if_neg (by rw [hbad];simp)]
       have HE6:=zh her;clear hq2 hbad her;refine aG rfl rfl (fun w33 Z5 J hJ=>?_);go_simp;refine ((jm _ _ z piv _ (aS.aO aI) (aS.aO aI) CV.out KZ.out KP.out (Uo.out.later ah)).mono (by rw [HW.out,CU.out];exact fun _ _ h=>h)).mono ?_;rintro e v33 ⟨rfl,JW⟩;refine hJ _ _ JW ?_;clear hJ J;refine zV ?_;refine aX rfl (fun b20 w17 ZE Co ZI ar7 kD=>?_);go_simp;replace kD:au _ _ _ _:=kD;have ar2:w.heap.size≤b20:=(by first|omega|exact Nat.le_trans (Below.size (B:=w.heap.size) ah) Co);refine aL [_,_] rfl (fun Uh BM=>?_);replace kD:=au.later (kD) BM;replace SV:=kD.cell;replace Sn:=kD.free;replace Rf:=kD.lt;have wE:Below w.heap.size w Uh:=Bt (Bt hwb hbv) ah;have Z8:wr.heap.size≤b20:=Co;have hwr:=(Bt hwb hbv).size;clear q0 q1 q1b q2 x6 x8;go_wp2_with fail
       go_ret2
       rw [HE6.out];exact aV.no ((wE.setCell (by simp;omega) _).setCell (by simp;omega) _) zd
     ·have ZT:n=c:=by omega
      subst ZT;go_wp2_with fail
      go_roundw
      case rel =>
       have hbv:Below vb.heap.size vb wr:=HN.out.toBelow hb (Nat.le_refl _);refine ⟨r+1,by go_num,by omega,zh (HM.out.step (v:=.slice (some ⟨wo.heap.size,0,none⟩) n n) hlt HN.out (fun arr hA=>?_) ?_),zh fun i hi c hc=>?_,hbv⟩
       ·have hAM:arr=rZ:=cK.au.uniq hA Ut.out;rw [hAM];exact HB.out
       ·refine Fill.Sc (HF.out.Av fun i hi=>?_) zi zo;simp [hi]
       ·rcases Nat.lt_or_ge i r with h|h
        ·exact HK.out i h c hc
        ·obtain rfl:i=r:=by omega
         exact HKc.out c hc
      case measure=>exact zM
   ·have hrn:n=r:=by omega
    subst hrn
    have hall:vD MM=true:=by
     unfold vD;rw [List.all_eq_true];intro x hx;obtain ⟨i,hi,rfl⟩:=List.getElem_of_mem hx;rw [KE.out] at hi;have e:=TW.out i hi;rw [getD_lt (show i<MM.length by rw [KE.out];exact hi)] at e;rw [e,List.all_eq_true];intro q hq;obtain ⟨c,hc,rfl⟩:=List.mem_map.1 hq;exact HK.out i hi c (List.mem_range.1 hc)
    have her:er=0:=by rw [← av3.out,if_pos hall]
    have hmv:aN wo (.slice (some ⟨vb.heap.size,0,none⟩) n n) MM.fr:=by
     have e1:MM.fr.length=n:=by unfold RM.fr;rw [List.length_map];exact KE.out
     have:aN wo (.slice (some ⟨vb.heap.size,0,none⟩) MM.fr.length MM.fr.length) MM.fr:=by
      refine fK.JF ?_ zo;rw [e1];obtain ⟨arr,k1,k2,k3⟩:=HM.out;refine ⟨arr,k1,k2,fun i hi=>?_⟩
      have e2:MM.fr.getD i []=((List.range n).map (E i)).map Fr.of:=by
       rw [← TW.out i hi];simp [RM.fr,show i<List.length MM by rw [KE.out];exact hi]
      show ∃ v,arr[i]? =some v∧gX wo 59 v (MM.fr.getD i [])
      rw [e2];exact k3 i hi
     rw [e1] at this;exact this
    have HMV:=zh hmv;have HE0:=zh her;clear hall hmv her;go_wp2_with fail
    go_ret2
    rw [HE0.out];exact aV.yes (Bt hwb hb) HMV.out
def nX (m:RM):Nat→Nat
 | 0=>1
 | k+1=>nX m k*bI (m.getD k [])
def SE (m:RM):Int:=if (elim m.length 0 (m.map dX) 1 false).2.1 then -(elim m.length 0 (m.map dX) 1 false).1 else (elim m.length 0 (m.map dX) 1 false).1
def Wi (m:RM):Rat:=((SE m:Int):Rat) / ((nX m m.length:Nat):Rat)
theorem CG (m:RM):∀ k,0<nX m k
 | 0=>by simp [nX]
 | k+1=>Nat.mul_pos (CG m k) (gU _).1
theorem Ir {m:RM} {n:Nat} (h:m.ok n):∀ k,k≤m.length→sz 1000000000 (nX m k)≤300*k+1
 | 0,_=>by
  have:sz 1000000000 1=1:=by decide+kernel
  simp [nX,this]
 | k+1,hk=>by
  have h1:=Ir h k zo;have h2:=jC (B:=1000000000) zo (nX m k) (bI (m.getD k []));have h3:=h.2.2.2.2 m[k] (List.getElem_mem _);have h4:=lK m[k] h3.2;have h5:=h.2.2.2.1;rw [getD_lt (show k<m.length by omega)] at h2;simp only [nX];rw [getD_lt (show k<m.length by omega)];have:=h3.1;omega
theorem WJ {w:World} {v:Value} {rs:IM} (h:xK w v rs) (h0:0<rs.length) :
  ∃ b off cap,v= .slice (some ⟨b,off,none⟩) rs.length cap∧rs.length≤cap∧cap≤9223372036854775807∧b<w.heap.size∧nY w b off rs.length (fun i=>rs.getD i []):=by
 obtain ⟨rv,hR,hl,hF⟩:=h
 rcases hR.cases with ⟨rfl,rfl⟩|⟨b,off,cap,arr,rfl,k1,k2,k3,k4⟩
 ·simp at hl;omega
 ·refine ⟨b,off,cap,by rw [hl],by omega,k2,k3.lt,arr,k3,fun i hi=>?_⟩;have hi2:i<rv.length:=by omega
  refine ⟨rv[i],k4 i hi2,?_⟩;simp only;rw [getD_lt hi];exact hF i hi hi2
theorem vM.near {w w':World} {M:Nat} {v:Value} {ds:List Nat} (h:vM w v ds) (k:fM w w' M) (hM:sK w M 114):vM w' v ds:=by
 obtain ⟨cs,hM⟩:=hM
 have row:∀ {T:TypeId} {v:Value} {xs:List Value},T≠114→Row w T v xs→Row w' T v xs:=fun hT h=>by
  obtain ⟨a,cap,h1,h2,h3,h4,h5⟩:=h;refine ⟨a,cap,h1,h2,h3,h4,fun ad had=>?_⟩;obtain ⟨h6,arr,h7,h8⟩:=h5 ad had;have h7':au w ad.block arr _:=h7;exact ⟨h6,arr,k.box h7' (h7'.ne hM hT),h8⟩
 obtain ⟨rs,h1,h2⟩:=h;exact ⟨rs,row zd h1,h2.mono fun _ _ h=>row zd h⟩
theorem Ud (va:Value) (ma:RM) (w:World) (ha:aN w va ma.fr) (XA:ma.ok ma.length) (ht:oO.Pow w) :
  Calls Tryz.prog 35 #[va] w (fun e w'=>e= .returned (Fr.res (cK.wr (Wi ma)))∧Below w.heap.size w w'):=by
 have xS:=XA;obtain ⟨a1,a4,b1,b4,iA⟩:=XA;obtain ⟨ba,qD,Ik,a0,cap0,rfl,xU,vB⟩:=aN.head ha zo
 have XH:(ma.headD []).length=ma.length:=by
  cases ma with
  | nil=>simp at a1
  | cons r t=>exact (iA r zi).1
 rw [XH] at vB;have sD:=zh (fun w' hx=>dw _ ma.fr w' (ha.later hx));rw [xS.Pn] at sD;have I8:=zh (fun w' hx=>Gu _ ma w' (ha.later hx) a4 (fun r hr=>⟨by have:=(iA r hr).1;omega,(iA r hr).2⟩));have hfit:=vT xS
 have as1:sz 1000000000 (1:Int).natAbs≤1000:=by
  have:sz 1000000000 (1:Int).natAbs=1:=by decide+kernel
  omega
 have JR:=(wK ma.length 0 1000 (ma.map dX) 1 false hfit as1 zo).2;have hg:=Hu (S:=1000) (m:=ma.length) a4;have Xh:=zh (fun B off cap w' (hx:nY w' B off ma.length (fun i=>(ma.map dX).getD i [])) (h1:ma.length≤cap) (h2:cap≤9223372036854775807)=>uS B off ma.length ma.length cap 1000 (ma.map dX) w' hx hfit a1 a4 (Nat.le_refl _) zo zo zo h1 h2);have hdt:SE ma=if (elim ma.length 0 (ma.map dX) 1 false).2.1 then -(elim ma.length 0 (ma.map dX) 1 false).1 else (elim ma.length 0 (ma.map dX) 1 false).1:=rfl
 have xu:Wi ma=((SE ma:Int):Rat) / ((nX ma ma.length:Nat):Rat):=rfl;obtain ⟨EL,IQ⟩:∃ y,Hid (elim ma.length 0 (ma.map dX) 1 false=y):=⟨_,zh rfl⟩;rw [IQ.out] at Xh JR hdt;obtain ⟨piv,turned,W⟩:=EL;have HSP:=zh (show sz 1000000000 piv.natAbs≤549755813888 by have h:=JR;simp only at h;omega);have HDT:Hid (SE ma=if turned then -piv else piv):=zh hdt;have HBP:=zh (Ir xS);have HB0:=zh (CG ma);have Bj:Hid (∀ k,nX ma k*bI (ma.getD k [])=nX ma (k+1)):=zh fun k=>rfl
 have FV:Hid (∀ k,k<ma.length→sz 1000000000 (bI (ma.getD k []))≤1099511627776):=zh fun k hk=>by
  rw [getD_lt hk];have h3:=iA ma[k] (List.getElem_mem _);have h4:=lK ma[k] h3.2;have:=h3.1;omega
 have HAR:=zh iA;have HT:=zh ht;obtain ⟨q,HQ⟩:∃ y,Hid (Wi ma=y):=⟨_,zh rfl⟩;rw [HQ.out] at xu ⊢;have HDQ:=zh xu;obtain ⟨R,CU⟩:∃ y,Hid (Fr.res (cK.wr q)=y):=⟨_,zh rfl⟩;rw [CU.out];obtain ⟨n,hna⟩:∃ y,ma.length=y:=⟨_,rfl⟩;have ME:=zh hna;clear ha xS iA XH ht hdt xu JR hfit hg as1 IQ;rw [hna] at sD I8 Xh a1 a4 b1 b4 HDQ HBP FV vB ⊢;clear hna;have Bh:0<n:=by omega
 have hmf:∀ (fn:Fn) (first cap:Array Value) (w:World),(Instr.makeFunc fn first cap).run Tryz.prog w= .ok (.func fn first cap) w:=fun _ _ _ _=>rfl;go_enter Tryz.func35,Tryz.ntmps35
 go_wp2_with fail
 obtain ⟨w0,Yz⟩:∃ y,w.alloc (.cells #[.string ⟨#[]⟩,.string ⟨#[]⟩] 59)=y:=⟨_,rfl⟩;have hw0:Below w.heap.size w w0:=by rw [← Yz];exact ah
 have BR:au w0 w.heap.size #[.string ⟨#[]⟩,.string ⟨#[]⟩] 59:=by rw [← Yz];exact aT
 rw [Yz];clear Yz;refine (sD.out _ hw0).mono ?_;rintro e v1 ⟨rfl,hc1⟩;replace BR:=BR.later hc1;have hw1:Below w.heap.size w v1:=Bt hw0 hc1;have c1:=(hw1.cell (p:=⟨ba,qD,none⟩) xU).trans vB;go_wp2_with fail
 refine (I8.out _ hw1).mono ?_;rintro e v2 ⟨vt,rfl,hc2,htab,hfr⟩;obtain ⟨Xz,XE,Tk,Qw,QM,Tj,rfl,hra,hma⟩:=htab;obtain ⟨B,Vi,aM6,e1,g1,g2,lB,hrb⟩:=WJ hra (by rw [List.length_map,ME.out];exact Bh);rw [List.length_map,ME.out] at e1 g1 hrb;simp only [Value.slice.injEq] at e1;obtain ⟨e1,e2,e3⟩:=e1;replace e2:=e2.symm;subst e1 e2 e3;have hBv:v1.heap.size≤B:=hfr _ _ _ _ rfl;have YC:=BR;replace BR:=BR.later hc2;have HRB:=zh hrb;have HMA:=zh hma;have hw2:Below w.heap.size w v2:=Bt hw1 hc2;have hs1:=hw1.size;have eG:=BR.lt;have XG:sK v2 B 114:=by obtain ⟨arr,k, -⟩:=hrb;exact k.rX
 clear hra hma hrb hfr c1;go_wp2_with fail
 have hx2:Below v2.heap.size v2 (v2.alloc (.cells #[.slice (some ⟨B,Vi,none⟩) n Tk,.slice Qw QM Tj] 105)):=ah
 have an8:nY (v2.alloc (.cells #[.slice (some ⟨B,Vi,none⟩) n Tk,.slice Qw QM Tj] 105)) B Vi n (fun i=>(ma.map dX).getD i []):=by
  obtain ⟨arr,k1,k2⟩:=HRB.out;exact ⟨arr,k1.later hx2,fun i hi=>by obtain ⟨v,g1,g2⟩:=k2 i hi;exact ⟨v,g1,g2.later hx2⟩⟩
 refine (Xh.out _ _ _ _ an8 g1 g2).mono ?_;rintro e v3 ⟨vp,rfl,Uk,hvp, -⟩;have h13:Below v1.heap.size v1 v3:=fM.toBelow Uk (Bt hc2 hx2) hBv;have hX5:au v3 v2.heap.size #[.slice (some ⟨B,Vi,none⟩) n Tk,.slice Qw QM Tj] 105:=fM.box Uk (au.new v2 _ _) zo;have ao3:=vM.near (HMA.out.later hx2) Uk (XG.later hx2);have hw3:Below w.heap.size w v3:=Bt hw1 h13;replace BR:=YC.later h13;replace eG:=BR.lt;obtain ⟨Ch,N9,CB,rfl,Pt⟩:=hvp;replace Pt:=zh Pt;obtain ⟨hn2,hr2⟩:=mZ ao3;rw [List.length_map,ME.out] at hn2;replace hn2:=hn2.symm;subst hn2;have HR2:=zh hr2;have hs3:=hw3.size;obtain ⟨X5,EX5⟩:∃ y,v2.heap.size=y:=⟨_,rfl⟩;rw [EX5] at hX5 ⊢;have l5:X5<v3.heap.size:=hX5.lt;have HX5:=zh hX5;have Us:=zh BR;obtain ⟨dt,Edt⟩:∃ y,Hid (SE ma=y):=⟨_,zh rfl⟩;rw [Edt.out] at HDT HDQ
 clear hx2 an8 Uk ao3 hr2 XG HMA HRB Xh YC BR hX5 hBv lB eG EX5 h13 hw2 hw1 hw0 hc1 hc2 sD I8 hs1 Edt hmf g1 g2
 go_upto_if 36 with fail
 go_cut [] from 36 (fun wx=>∃ (pa:Option Addr) (l ca:Nat),Hid (au wx v3.heap.size #[.slice pa l ca,.bool (decide (dt<0))] 112)∧Hid (aK wx (.slice pa l ca) dt.natAbs)∧Below v3.heap.size v3 wx)
 case first =>
  have hx3:Below v3.heap.size v3 (v3.alloc (.cells #[.slice Ch N9 CB,.bool (decide (piv<0))] 112)):=ah;have hb3:=au.new v3 #[.slice Ch N9 CB,.bool (decide (piv<0))] 112;replace Pt:=zh (Pt.out.later hx3)
  rcases turned with _| _
  ·have hd:dt=piv:=HDT.out;have HD:=zh hd;clear hd;go_wp2_with fail
   go_meet
   case rel =>
    rw [HD.out];exact ⟨_,_,_,zh hb3,Pt,hx3⟩
  ·have hd:dt= -piv:=HDT.out;have HD:=zh hd;clear hd;go_wp2_with fail
   refine ((nP _ piv _ (aS.aO Pt.out)).mono (by rw [← HD.out];exact fun _ _ h=>h)).mono ?_;rintro e v4 ⟨v,rfl,hc4,hv⟩;obtain ⟨aE7,aJ9,aF7,rfl,HD2⟩:=hv;replace HD2:=zh HD2;have hb4:=hb3.later hc4;have cb4:=hb4.cell;have fb4:=hb4.free;have is4:=hb4.rX;go_wp2_with fail
   go_meet
   case rel =>
    exact ⟨_,_,_,zh ((hb4.set 0 _).set 1 _),zh ((HD2.out.jP is4 zd).jP is4.setCell zd),((Bt hx3 hc4).setCell (Nat.le_refl _) _).setCell (Nat.le_refl _) _⟩
 case rest =>
  obtain ⟨pa,l,ca,HP7,Pv,hb3⟩:=hcut;have hm9:aK (wc.alloc (.cells #[.int .u32 1] 65)) (.slice (some ⟨wc.heap.size,0,none⟩) 1 1) 1:=aK.lit (d:=1) zo zo;have HM9:=zh hm9;clear hm9;have c5:=(HX5.out.later hb3).cell;have l5c:=(HX5.out.later hb3).lt;go_wp2_with fail
  obtain ⟨v5,Ev5⟩:∃ y,wc.alloc (.cells #[.int .u32 1] 65)=y:=⟨_,rfl⟩;have h35:Below v3.heap.size v3 v5:=by rw [← Ev5];exact Bt hb3 ah
  have h45:Below wc.heap.size wc v5:=by rw [← Ev5];exact ah
  replace HP7:=zh (HP7.out.later h45);replace Pv:=zh (Pv.out.later h45);rw [Ev5] at HM9 ⊢;clear Ev5 c5 l5c hb3 h45
  go_loopw [43,9] (fun iv bv wr=>∃ (k:Nat) (pb:Option Addr) (lb cb:Nat),iv= .int .i64 (k:Int)∧bv= .slice pb lb cb∧k≤n∧Hid (aK wr (.slice pb lb cb) (nX ma k))∧Below v5.heap.size v5 wr) (fun iv _ _=>n - (intOf iv).toNat)
  case atStart=>exact ⟨0,_,_,_,rfl,rfl,by omega,HM9,Below.refl _ _⟩
  case round =>
   obtain ⟨k,pb,lb,cb,rfl,rfl,hk,Xc,hb⟩:=hrel
   rcases Nat.lt_or_ge k n with hlt|hge
   ·have hlt2:(k:Int)<(n:Int):=by omega
    obtain ⟨b2,o2,p2,m2,d2,rfl,f2,f3,f4⟩:=HR2.out k (by rw [List.length_map,ME.out];exact hlt);simp only [List.getElem_map] at f4;have XZ:Below v3.heap.size v3 wr:=Bt h35 hb;have q2:=(XZ.cell (p:=⟨b2,o2+k,none⟩) f2).trans f3;have l2:=Nat.lt_of_lt_of_le f2 XZ.size;have G2:=zh (f4.later XZ);have hgd:=getD_lt (d:=[]) (show k<ma.length by rw [ME.out];exact hlt);rw [← hgd] at G2;have K1:=zh (Nat.le_trans (HBP.out k zo) (show 300*k+1≤1099511627776 by omega));have K2:=zh (FV.out k hlt);have HBK:=zh (Bj.out k);clear f2 f3 f4 hgd HR2;generalize bI (ma.getD k [])=dc at *;go_wp2_with fail
    refine ((iD _ _ (nX ma k) dc _ Xc.out G2.out K1.out K2.out).mono (by rw [HBK.out];exact fun _ _ h=>h)).mono ?_;rintro e v6 ⟨v,rfl,hc6,hv⟩;obtain ⟨aI6,lH6,aN6,rfl⟩:=hv.slice;have H6:=zh hv;clear hv;go_wp2_with fail
    go_roundw
    case rel=>exact ⟨k+1,_,_,_,by go_num,rfl,by omega,H6,Bt hb hc6⟩
    case measure=>exact zM
   ·have hkn:n=k:=by omega
    subst hkn;have XZ:Below v3.heap.size v3 wr:=Bt h35 hb;have hP7:=HP7.out.later hb;have c7:=hP7.cell;have l7:=hP7.lt;replace Pv:=zh (Pv.out.later hb);have av6:=zh (Us.out.later XZ);have hD0:=HB0.out n;have hDZ:=HBP.out n (Nat.le_refl _);generalize nX ma n=D at *;have SD:Hid (gB D false=((D:Nat):Int)):=zh rfl;have KD:Hid (sz 1000000000 ((D:Nat):Int).natAbs≤549755813888):=zh (by rw [Int.natAbs_natCast];omega);have ND:Hid (((D:Nat):Int)≠0):=zh zo;have av4:Hid (((dt:Int):Rat) / ((((D:Nat):Int)):Rat)=q):=zh (by rw [Rat.intCast_natCast];exact HDQ.out.symm)
    have KT:Hid (sz 1000000000 dt.natAbs≤549755813888):=zh (by
     rw [HDT.out];split
     ·rw [Int.natAbs_neg];exact HSP.out
     ·exact HSP.out)
    have Uo:=zh (HT.out.later (Bt hw3 XZ));clear hD0 hDZ;have hq2:iR q=true∨iR q=false:=by cases iR q<;>simp
    rcases hq2 with hq2|hq2
    ·have OV:Hid (R= .tuple #[.agg #[.string (Fr.of q).n,.string (Fr.of q).d],.int .i64 0]):=zh (by rw [← CU.out];unfold cK.wr;rw [if_pos hq2];rfl);clear hq2;obtain ⟨s1,O8⟩:∃ x:ByteArray,Hid ((Fr.of q).n=x):=⟨_,zh rfl⟩;obtain ⟨s2,O7⟩:∃ x:ByteArray,Hid ((Fr.of q).d=x):=⟨_,zh rfl⟩;rw [O8.out,O7.out] at OV;go_wp2_with fail
     refine aD [(.read,0),(.pure,1),(.ext,2),(.ext,3),(.pure,4),(.pure,5),(.fin,6),(.fin,7)] zk zk zR zP ?_;refine zV ?_;refine aG rfl rfl (fun w31 Ae J hJ=>?_);go_simp;replace Xc:=zh (aK.carry Xc.out aI Ae);replace Pv:=zh (aK.carry Pv.out aI Ae);refine ((dx _ D false _ aI).mono (by rw [SD.out];exact fun _ _ h=>h)).mono ?_;rintro e v31 ⟨v,rfl,hc31,hv⟩;obtain ⟨vZ,N8,wN,rfl,Hs⟩:=hv;replace Hs:=zh Hs;replace Xc:=zh (aK.later Xc.out hc31);replace Pv:=zh (aK.later Pv.out hc31);refine hJ _ _ hc31 ?_;clear hJ J;refine aG rfl rfl (fun w32 Z6 J hJ=>?_);go_simp;refine ((jm _ _ dt ((D:Nat):Int) _ (aS.aO aI) (aS.aO aI) ND.out KT.out KD.out (Uo.out.later ah)).mono (by rw [av4.out,CU.out,OV.out];exact fun _ _ h=>h)).mono ?_;rintro e v32 ⟨rfl,hc32⟩;refine hJ _ _ hc32 ?_;clear hJ J;refine zV ?_
     refine aL [_,_] rfl (fun w9 nU=>?_);have wD:Below wr.heap.size wr w9:=ah;have hbr:=av6.out.later wD;have cbr:=hbr.cell;have fbr:=hbr.free;go_wp2_with fail
     refine aP rfl rfl ((hbr.set 0 _).set 1 _) Tryz.underlying59 rfl zk ?_;exact ⟨by rw [OV.out];rfl,((Bt (Bt hw3 XZ) wD).setCell zi _).setCell zi _⟩
    ·have OV:Hid (R= .tuple #[.agg #[.string ⟨#[]⟩,.string ⟨#[]⟩],.int .i64 6]):=zh (by rw [← CU.out];exact qb hq2);clear hq2;go_wp2_with fail
     refine aD [(.read,0),(.pure,1),(.ext,2),(.ext,3),(.pure,4),(.pure,5),(.fin,6),(.fin,7)] zk zk zR zP ?_;refine zV ?_;refine aG rfl rfl (fun w31 Ae J hJ=>?_);go_simp;replace Xc:=zh (aK.carry Xc.out aI Ae);replace Pv:=zh (aK.carry Pv.out aI Ae);refine ((dx _ D false _ aI).mono (by rw [SD.out];exact fun _ _ h=>h)).mono ?_;rintro e v31 ⟨v,rfl,hc31,hv⟩;obtain ⟨vZ,N8,wN,rfl,Hs⟩:=hv;replace Hs:=zh Hs;replace Xc:=zh (aK.later Xc.out hc31);replace Pv:=zh (aK.later Pv.out hc31);refine hJ _ _ hc31 ?_;clear hJ J;refine aG rfl rfl (fun w32 Z6 J hJ=>?_);go_simp;refine ((jm _ _ dt ((D:Nat):Int) _ (aS.aO aI) (aS.aO aI) ND.out KT.out KD.out (Uo.out.later ah)).mono (by rw [av4.out,CU.out,OV.out];exact fun _ _ h=>h)).mono ?_;rintro e v32 ⟨rfl,hc32⟩;refine hJ _ _ hc32 ?_;clear hJ J;refine zV ?_
     refine aL [_,_] rfl (fun w9 nU=>?_);have wD:Below wr.heap.size wr w9:=ah;have hbr:=av6.out.later wD;have cbr:=hbr.cell;have fbr:=hbr.free;go_wp2_with fail
     refine aP rfl rfl ((hbr.set 0 _).set 1 _) Tryz.underlying59 rfl zk ?_;exact ⟨by rw [OV.out];rfl,((Bt (Bt hw3 XZ) wD).setCell zi _).setCell zi _⟩
def qF (a:Fr):Rat:=(rd a).getD 0
theorem Xv {a:Fr} (h:(rd a).isSome=true):a=Fr.of (qF a)∧iR (qF a)=true:=by
 obtain ⟨q,hq⟩:=Option.isSome_iff_exists.1 h;unfold qF;rw [hq];exact Ci hq
def Du (m:List (List Fr)):RM:=m.map fun r=>r.map qF
theorem YZ {r:List Fr} (h:gN r=0):r=(r.map qF).map Fr.of∧∀ q∈r.map qF,iR q=true:=by
 unfold gN at h;split at h
 ·rename_i hh;rw [List.all_eq_true] at hh;refine ⟨?_,fun q hq=>?_⟩
  ·rw [List.map_map]
   conv=>lhs;rw [← List.map_id r]
   exact List.map_congr_left fun a ha=>(Xv (hh a ha)).1
  ·obtain ⟨a,ha,rfl⟩:=List.mem_map.1 hq;exact (Xv (hh a ha)).2
 ·cases h
theorem vU {m:List (List Fr)} (hh:jQ m=true):m=(Du m).fr∧(Du m).ok (m.headD []).length:=by
 unfold jQ at hh;simp only [Bool.and_eq_true,decide_eq_true_eq,List.all_eq_true,beq_iff_eq] at hh;obtain ⟨⟨⟨⟨h1,h2⟩,h3⟩,h4⟩,h5⟩:=hh;refine ⟨?_,by simpa [Du] using h1,by simpa [Du] using h2,h3,h4,fun r hr=>?_⟩
 ·unfold Du RM.fr;rw [List.map_map]
  conv=>lhs;rw [← List.map_id m]
  exact List.map_congr_left fun r hr=>(YZ (h5 r hr).2).1
 ·obtain ⟨r',hr',rfl⟩:=List.mem_map.1 hr;exact ⟨by simpa using (h5 r' hr').1,(YZ (h5 r' hr').2).2⟩
theorem Dt (m:List (List Fr)):(Du m).length=m.length:=List.length_map _
theorem aN.sl {w:World} {v:Value} {m:List (List Fr)} (h:aN w v m):∃ a c,v= .slice a m.length c:=by
 obtain ⟨rs,hR,hl, -⟩:=h;obtain ⟨a,cap,e, -⟩:=hR;exact ⟨a,cap,by rw [e,hl]⟩
theorem AA (m:List (List Fr)):(jQ m=true∧gZ m=0)∨(jQ m=false∧gZ m=50):=by
 unfold gZ;cases jQ m<;>simp
theorem iU {m:List (List Fr)} (h:jQ m=true):1≤m.length∧m.length≤4∧1≤(m.headD []).length∧(m.headD []).length≤4∧∀ r∈m,r.length=(m.headD []).length∧gN r=0:=by
 unfold jQ at h;simp only [Bool.and_eq_true,decide_eq_true_eq,List.all_eq_true,beq_iff_eq] at h;obtain ⟨⟨⟨⟨h1,h2⟩,h3⟩,h4⟩,h5⟩:=h;exact ⟨h1,h2,h3,h4,h5⟩
theorem aN.top {w:World} {v:Value} {m:List (List Fr)} (h:aN w v m) (h0:0<m.length) :
  ∃ b off cap a0 cap0,v= .slice (some ⟨b,off,none⟩) m.length cap∧b<w.heap.size∧w.cell? ⟨b,off,none⟩=some (.slice a0 (m.headD []).length cap0):=by
 obtain ⟨b,off,cap,a0,cap0,h1, -, h2,h3⟩:=aN.first h h0
 exact ⟨b,off,cap,a0,cap0,h1,h2,h3⟩
theorem OJ (v:Value) (m:List (List Fr)) (w:World) (h:aN w v m) :
  Calls Tryz.prog 21 #[v] w (aV w (gZ m) (jB m (m.headD []).length)):=by
 have HC:=zh (fun W (hW:Below w.heap.size w W)=>dw v m W (h.later hW));obtain ⟨a,cap,rfl⟩:=aN.sl h
 rcases AA m with ⟨hk,e⟩|⟨hk,e⟩
 ·obtain ⟨k1,k4,k5,k6,k7⟩:=iU hk;have HT:=zh (fun W (hW:Below w.heap.size w W)=>sF _ m (m.headD []).length W (h.later hW) k1 k4 k6 (fun r hr=>(k7 r hr).1));rw [e] at HC ⊢;generalize jB m (m.headD []).length=M at *;clear h hk e k1 k4 k5 k6 k7;go_enter Tryz.func21,Tryz.ntmps21
  go_wp2_with fail
  refine (HC.out _ (Below.refl _ _)).mono ?_;rintro e w1 ⟨rfl,hc1⟩;go_wp2_with fail
  refine (HT.out _ ah).mono ?_;rintro e w2 ⟨v',rfl,hc2,hm⟩;have HM:=zh hm;have HB:=zh (Bt hc1 hc2);obtain ⟨pa,ca,rfl⟩:=aN.sl hm;clear hm hc1 hc2;go_wp2_with fail
  go_ret2
  exact aV.yes HB.out HM.out
 ·rw [e] at HC ⊢;clear h hk e;go_enter Tryz.func21,Tryz.ntmps21
  go_wp2_with fail
  refine (HC.out _ (Below.refl _ _)).mono ?_;rintro e w1 ⟨rfl,hc1⟩;go_wp2_with fail
  go_ret2
  exact aV.no ah zd
def mulM (a b:List (List Fr)):List (List Fr):=(BA (Du a) (Du b) (b.headD []).length).fr
def qH (a b:List (List Fr)):Int:=if jQ a=true∧jQ b=true then (if (a.headD []).length=b.length then (if vD (BA (Du a) (Du b) (b.headD []).length) then 0 else 6) else 2) else 50
theorem Ls (va vb:Value) (a b:List (List Fr)) (w:World) (ha:aN w va a) (hb:aN w vb b) (M:List (List Fr)) (h:¬ (jQ a=true∧jQ b=true)) :
  Calls Tryz.prog 27 #[va,vb] w (aV w 50 M):=by
 have sD:=zh (fun W (hW:Below w.heap.size w W)=>dw va a W (ha.later hW));have x9:=zh (fun W (hW:Below w.heap.size w W)=>dw vb b W (hb.later hW));obtain ⟨pa,ca,rfl⟩:=aN.sl ha;obtain ⟨pb,cb,rfl⟩:=aN.sl hb
 rcases AA a with ⟨ka,ea⟩|⟨ka,ea⟩
 ·rcases AA b with ⟨kb,eb⟩|⟨kb,eb⟩
  ·exact absurd ⟨ka,kb⟩ h
  ·rw [ea] at sD;rw [eb] at x9;clear ha hb ka kb ea eb h;go_enter Tryz.func27,Tryz.ntmps27
   go_wp2_with fail
   refine (sD.out _ (Below.refl _ _)).mono ?_;rintro e v1 ⟨rfl,hc1⟩;go_wp2_with fail
   refine (x9.out _ hc1).mono ?_;rintro e v2 ⟨rfl,hc2⟩;go_wp2_with fail
   go_ret2
   exact aV.no (Bt hc1 hc2) zd
 ·rw [ea] at sD;clear ha hb ka ea h x9;go_enter Tryz.func27,Tryz.ntmps27
  go_wp2_with fail
  refine (sD.out _ (Below.refl _ _)).mono ?_;rintro e v1 ⟨rfl,hc1⟩;go_wp2_with fail
  go_ret2
  exact aV.no hc1 zd
theorem Lu (va vb:Value) (a b:List (List Fr)) (w:World) (ha:aN w va a) (hb:aN w vb b) (M:List (List Fr)) (ka:jQ a=true) (kb:jQ b=true) (hne:(a.headD []).length≠b.length) :
  Calls Tryz.prog 27 #[va,vb] w (aV w 2 M):=by
 have sD:=zh (fun W (hW:Below w.heap.size w W)=>dw va a W (ha.later hW));have x9:=zh (fun W (hW:Below w.heap.size w W)=>dw vb b W (hb.later hW));have ea:gZ a=0:=by unfold gZ;rw [if_pos ka]
 have eb:gZ b=0:=by unfold gZ;rw [if_pos kb]
 rw [ea] at sD;rw [eb] at x9;have k1:=(iU ka).1;obtain ⟨ba,qD,Ik,a0,cap0,rfl,xU,vB⟩:=aN.top ha zo;obtain ⟨pb,cb,rfl⟩:=aN.sl hb;generalize (a.headD []).length=x at *;generalize b.length=y at *;have h0:0<a.length:=by omega
 generalize a.length=na at *;have hd:((x:Int) != (y:Int))=true:=by simp;omega
 have hd2:decide ((x:Int)=(y:Int))=false:=decide_eq_false zo;clear ha hb ka kb ea eb k1;go_enter Tryz.func27,Tryz.ntmps27
 go_wp2_with fail
 refine (sD.out _ (Below.refl _ _)).mono ?_;rintro e v1 ⟨rfl,hc1⟩;go_wp2_with fail
 refine (x9.out _ hc1).mono ?_;rintro e v2 ⟨rfl,hc2⟩;have hw2:Below w.heap.size w v2:=Bt hc1 hc2;have c1:=(hw2.cell (p:=⟨ba,qD,none⟩) xU).trans vB;have l1:ba<v2.heap.size:=Nat.lt_of_lt_of_le xU hw2.size;clear vB;go_wp2_with fail
 go_ret2
 exact aV.no hw2 zd
theorem TI (va vb:Value) (a b:List (List Fr)) (w:World) (ha:aN w va a) (hb:aN w vb b) (ht:oO.Pow w) :
  Calls Tryz.prog 27 #[va,vb] w (aV w (qH a b) (mulM a b)):=by
 unfold qH
 by_cases h:jQ a=true∧jQ b=true
 ·rw [if_pos h]
  by_cases hl:(a.headD []).length=b.length
  ·rw [if_pos hl];obtain ⟨e1,o1⟩:=vU h.1;obtain ⟨e2,o2⟩:=vU h.2;rw [hl,← Dt b] at o1;exact QN va vb (Du a) (Du b) (b.headD []).length w (e1 ▸ ha) (e2 ▸ hb) o1 o2 ht
  ·rw [if_neg hl];exact Lu va vb a b w ha hb _ h.1 h.2 hl
 ·rw [if_neg h];exact Ls va vb a b w ha hb _ h
def aa6 (m:List (List Fr)):Fr × Int:=if jQ m=true then (if m.length=(m.headD []).length then cK.wr (Wi (Du m)) else (Fr.no,2)) else (Fr.no,50)
theorem L8 (v:Value) (m:List (List Fr)) (w:World) (h:aN w v m) (hk:jQ m=false) :
  Calls Tryz.prog 35 #[v] w (fun e w'=>e= .returned (Fr.res (Fr.no,50))∧Below w.heap.size w w'):=by
 have HC:=zh (fun W (hW:Below w.heap.size w W)=>dw v m W (h.later hW));have e:gZ m=50:=by unfold gZ;rw [hk];rfl
 rw [e] at HC;obtain ⟨a,cap,rfl⟩:=aN.sl h;clear h hk e;unfold Fr.res Fr.no Fr.v;go_enter Tryz.func35,Tryz.ntmps35
 go_wp2_with fail
 refine (HC.out _ ah).mono ?_;rintro e v1 ⟨rfl,hc1⟩;have BR:=au.later (au.new _ _ _) hc1;have bK:=BR.cell;have bL:=BR.free;have eG:=BR.lt;go_wp2_with fail
 refine aP rfl rfl aT Tryz.underlying59 rfl zk ?_;exact ⟨rfl,ah⟩
theorem L9 (v:Value) (m:List (List Fr)) (w:World) (h:aN w v m) (hk:jQ m=true) (hne:m.length≠(m.headD []).length) :
  Calls Tryz.prog 35 #[v] w (fun e w'=>e= .returned (Fr.res (Fr.no,2))∧Below w.heap.size w w'):=by
 have HC:=zh (fun W (hW:Below w.heap.size w W)=>dw v m W (h.later hW));have e:gZ m=0:=by unfold gZ;rw [hk];rfl
 rw [e] at HC;have k1:=(iU hk).1;obtain ⟨ba,qD,Ik,a0,cap0,rfl,xU,vB⟩:=aN.top h zo;generalize (m.headD []).length=x at *;have h0:0<m.length:=by omega
 generalize m.length=y at *;have hd:((y:Int) != (x:Int))=true:=by simp;omega
 have hd2:decide ((y:Int)=(x:Int))=false:=decide_eq_false zo;clear h hk e k1 hne;unfold Fr.res Fr.no Fr.v;go_enter Tryz.func35,Tryz.ntmps35
 go_wp2_with fail
 refine (HC.out _ ah).mono ?_;rintro e v1 ⟨rfl,hc1⟩;have BR:=au.later (au.new _ _ _) hc1;have bK:=BR.cell;have bL:=BR.free;have eG:=BR.lt;have hw1:Below w.heap.size w v1:=ah;have c1:=(hw1.cell (p:=⟨ba,qD,none⟩) xU).trans vB;have l1:ba<v1.heap.size:=Nat.lt_of_lt_of_le xU hw1.size;clear vB;go_wp2_with fail
 refine aP rfl rfl aT Tryz.underlying59 rfl zk ?_;exact ⟨rfl,ah⟩
theorem ac7 (v:Value) (m:List (List Fr)) (w:World) (h:aN w v m) (ht:oO.Pow w) :
  Calls Tryz.prog 35 #[v] w (fun e w'=>e= .returned (Fr.res (aa6 m))∧Below w.heap.size w w'):=by
 unfold aa6;cases hk:jQ m with
 | false=>rw [if_neg zi];exact L8 v m w h hk
 | true =>
  rw [if_pos rfl]
  by_cases hl:m.length=(m.headD []).length
  ·rw [if_pos hl];obtain ⟨e1,o1⟩:=vU hk;rw [← hl,← Dt m] at o1;exact Ud v (Du m) w (e1 ▸ h) o1 ht
  ·rw [if_neg hl];exact L9 v m w h hk hl
def GY (m:List (List Fr)):List (List Fr):=(DT (Du m)).fr
def uL (m:List (List Fr)):Int:=if jQ m=true then (if m.length=(m.headD []).length then VA (Du m) else 2) else 50
theorem GV (v:Value) (m:List (List Fr)) (M:List (List Fr)) (w:World) (h:aN w v m) (hk:jQ m=false) :
  Calls Tryz.prog 37 #[v] w (aV w 50 M):=by
 have HC:=zh (fun W (hW:Below w.heap.size w W)=>dw v m W (h.later hW));have e:gZ m=50:=by unfold gZ;rw [hk];rfl
 rw [e] at HC;obtain ⟨a,cap,rfl⟩:=aN.sl h;clear h hk e;go_enter Tryz.func37,Tryz.ntmps37
 go_wp2_with fail
 refine (HC.out _ ah).mono ?_;rintro e v1 ⟨rfl,hc1⟩;go_wp2_with fail
 go_ret2
 exact aV.no hc1 zd
theorem GX (v:Value) (m:List (List Fr)) (M:List (List Fr)) (w:World) (h:aN w v m) (hk:jQ m=true) (hne:m.length≠(m.headD []).length) :
  Calls Tryz.prog 37 #[v] w (aV w 2 M):=by
 have HC:=zh (fun W (hW:Below w.heap.size w W)=>dw v m W (h.later hW));have e:gZ m=0:=by unfold gZ;rw [hk];rfl
 rw [e] at HC;have k1:=(iU hk).1;obtain ⟨ba,qD,Ik,a0,cap0,rfl,xU,vB⟩:=aN.top h zo;generalize (m.headD []).length=x at *;have h0:0<m.length:=by omega
 generalize m.length=y at *;have hd:((y:Int) != (x:Int))=true:=by simp;omega
 have hd2:decide ((y:Int)=(x:Int))=false:=decide_eq_false zo;clear h hk e k1 hne;go_enter Tryz.func37,Tryz.ntmps37
 go_wp2_with fail
 refine (HC.out _ ah).mono ?_;rintro e v1 ⟨rfl,hc1⟩;have c1:=(hc1.cell (p:=⟨ba,qD,none⟩) xU).trans vB;have l1:ba<v1.heap.size:=Nat.lt_of_lt_of_le xU hc1.size;clear vB;go_wp2_with fail
 go_ret2
 exact aV.no hc1 zd
theorem TQ (v:Value) (m:List (List Fr)) (w:World) (h:aN w v m) (ht:oO.Pow w) :
  Calls Tryz.prog 37 #[v] w (aV w (uL m) (GY m)):=by
 unfold uL;cases hk:jQ m with
 | false=>rw [if_neg zi];exact GV v m _ w h hk
 | true =>
  rw [if_pos rfl]
  by_cases hl:m.length=(m.headD []).length
  ·rw [if_pos hl];obtain ⟨e1,o1⟩:=vU hk;rw [← hl,← Dt m] at o1;exact Fe v (Du m) w (e1 ▸ h) o1 ht
  ·rw [if_neg hl];exact GX v m _ w h hk hl
def WG (m:List (List Fr)) (l:List Fr):List Rat:=(Du m).map fun r=>jh r (l.map qF)
def at7 (m:List (List Fr)) (l:List Fr):List Fr:=(WG m l).map Fr.of
def WH (m:List (List Fr)) (l:List Fr):Int:=if jQ m=true then (if gN l=0 then (if l.length=(m.headD []).length then (if (WG m l).all iR then 0 else 6) else 2) else 20) else 50
def ku (w:World) (er:Int) (l:List Fr) (e:Ending) (w':World):Prop :=
 Below w.heap.size w w'∧∃ v,e= .returned (.tuple #[v,.int .i64 er])∧(er=0→gX w' 59 v l)∧(er≠0→v= .slice none 0 0)
theorem ku.no {w w':World} {er:Int} {m:List Fr} (hb:Below w.heap.size w w') (he:er≠0):ku w er m (.returned (.tuple #[.slice none 0 0,.int .i64 er])) w' :=
 ⟨hb,_,rfl,fun h=>absurd h he,fun _=>rfl⟩
theorem OD (v vl:Value) (m:List (List Fr)) (l L:List Fr) (T:TypeId) (w:World) (h:aN w v m) (hl:gX w T vl l) (hk:jQ m=false) :
  Calls Tryz.prog 29 #[v,vl] w (ku w 50 L):=by
 have HC:=zh (fun W (hW:Below w.heap.size w W)=>dw v m W (h.later hW));have e:gZ m=50:=by unfold gZ;rw [hk];rfl
 rw [e] at HC;obtain ⟨a,cap,rfl⟩:=aN.sl h;obtain ⟨al,cl,rfl, -⟩:=hl.read;clear h hk e hl;go_enter Tryz.func29,Tryz.ntmps29
 go_wp2_with fail
 refine (HC.out _ ah).mono ?_;rintro e v1 ⟨rfl,hc1⟩;go_wp2_with fail
 go_ret2
 exact ku.no hc1 zd
theorem Kn (v vl:Value) (m:List (List Fr)) (l L:List Fr) (T:TypeId) (w:World) (h:aN w v m) (hl:gX w T vl l) (hk:jQ m=true) (hc:¬ gN l=0) :
  Calls Tryz.prog 29 #[v,vl] w (ku w 20 L):=by
 have HC:=zh (fun W (hW:Below w.heap.size w W)=>dw v m W (h.later hW));have e:gZ m=0:=by unfold gZ;rw [hk];rfl
 rw [e] at HC;have HL:=zh (fun W (hW:Below w.heap.size w W)=>iX vl l T W (hl.later hW));have e2:gN l=20:=by unfold gN at hc ⊢;split<;>simp_all
 rw [e2] at HL;obtain ⟨a,cap,rfl⟩:=aN.sl h;obtain ⟨al,cl,rfl, -⟩:=hl.read;clear h hk e hl hc e2;go_enter Tryz.func29,Tryz.ntmps29
 go_wp2_with fail
 refine (HC.out _ ah).mono ?_;rintro e v1 ⟨rfl,hc1⟩;go_wp2_with fail
 refine (HL.out _ hc1).mono ?_;rintro e v2 ⟨rfl,hc2⟩;go_wp2_with fail
 go_ret2
 exact ku.no (Bt hc1 hc2) zd
theorem OE (v vl:Value) (m:List (List Fr)) (l L:List Fr) (T:TypeId) (w:World) (h:aN w v m) (hl:gX w T vl l) (hk:jQ m=true) (hc:gN l=0) (hne:l.length≠(m.headD []).length) :
  Calls Tryz.prog 29 #[v,vl] w (ku w 2 L):=by
 have HC:=zh (fun W (hW:Below w.heap.size w W)=>dw v m W (h.later hW));have e:gZ m=0:=by unfold gZ;rw [hk];rfl
 rw [e] at HC;have HL:=zh (fun W (hW:Below w.heap.size w W)=>iX vl l T W (hl.later hW));rw [hc] at HL;have k1:=(iU hk).1;obtain ⟨ba,qD,Ik,a0,cap0,rfl,xU,vB⟩:=aN.top h zo;obtain ⟨al,cl,rfl, -⟩:=hl.read;generalize (m.headD []).length=x at *;have h0:0<m.length:=by omega
 generalize m.length=na at *;generalize l.length=y at *;have hd:((y:Int) != (x:Int))=true:=by simp;omega
 have hd2:decide ((y:Int)=(x:Int))=false:=decide_eq_false zo;clear h hk e hl hc k1 hne;go_enter Tryz.func29,Tryz.ntmps29
 go_wp2_with fail
 refine (HC.out _ ah).mono ?_;rintro e v1 ⟨rfl,hc1⟩;go_wp2_with fail
 refine (HL.out _ hc1).mono ?_;rintro e v2 ⟨rfl,hc2⟩;have hw2:Below w.heap.size w v2:=Bt hc1 hc2;have c1:=(hw2.cell (p:=⟨ba,qD,none⟩) xU).trans vB;have l1:ba<v2.heap.size:=Nat.lt_of_lt_of_le xU hw2.size;clear vB;go_wp2_with fail
 go_ret2
 exact ku.no hw2 zd
theorem Uf (v vl:Value) (m:List (List Fr)) (l:List Fr) (T:TypeId) (w:World) (h:aN w v m) (hl:gX w T vl l) (ht:oO.Pow w) :
  Calls Tryz.prog 29 #[v,vl] w (ku w (WH m l) (at7 m l)):=by
 unfold WH;cases hk:jQ m with
 | false=>rw [if_neg zi];exact OD v vl m l _ T w h hl hk
 | true =>
  rw [if_pos rfl]
  by_cases hc:gN l=0
  ·rw [if_pos hc]
   by_cases hn:l.length=(m.headD []).length
   ·rw [if_pos hn];obtain ⟨e1,o1⟩:=vU hk;obtain ⟨e2,o2⟩:=YZ hc;have hlen:(l.map qF).length=l.length:=List.length_map _;rw [← hn,← hlen] at o1;refine (Km v vl (Du m) (l.map qF) T w (e1 ▸ h) (e2 ▸ hl) o1 o2 ht).mono fun e w' hp=>?_
    rcases hp with ⟨h1,vo,rfl,h2,h3⟩|⟨h1,rfl,h2⟩
    ·rw [show (WG m l).all iR=true from h1,if_pos rfl];exact ⟨h2,vo,rfl,fun _=>h3,fun h=>absurd rfl h⟩
    ·rw [show (WG m l).all iR=false from h1,if_neg zi];exact ku.no h2 zd
   ·rw [if_neg hn];exact OE v vl m l _ T w h hl hk hc hn
  ·rw [if_neg hc];exact Kn v vl m l _ T w h hl hk hc
end Go.Proofs.matrix
namespace Go.Proofs.matrix
open Go Go.RowKit Go.SW Go.Num Go.Mem Go.Proofs Go.Dec Go.cK dJ
def JE (r:(Int × Int) × Int):(Int × Int) × Int:=if r.2=0 then r else ((0,0),r.2)
def fC (f:Nat→(Int × Int) × Int):Nat→(Int × Int) × Int
 | 0=>JE (f 0)
 | k+1=>if (fC f k).2=0 then (if (f (k+1)).2=0 then JE (iC (fC f k).1 (f (k+1)).1) else ((0,0),(f (k+1)).2)) else fC f k
theorem JD {r:(Int × Int) × Int} (h:r.2=0):JE r=r:=by unfold JE;rw [if_pos h]
theorem DL {r:(Int × Int) × Int} (h:¬ r.2=0):JE r=((0,0),r.2):=by unfold JE;rw [if_neg h]
theorem AO {f:Nat→(Int × Int) × Int} {j:Nat} (h:¬ (fC f j).2=0):∀ d,fC f (j+d)=fC f j
 | 0=>rfl
 | d+1=>by
  show (if (fC f (j+d)).2=0 then (if (f (j+d+1)).2=0 then JE (iC (fC f (j+d)).1 (f (j+d+1)).1) else ((0,0),(f (j+d+1)).2)) else fC f (j+d))=_
  rw [AO h d,if_neg h]
theorem nW {f:Nat→(Int × Int) × Int} {j n:Nat} (h:¬ (fC f j).2=0) (hn:j≤n):fC f n=fC f j:=by
 have:=AO h (n - j)
 rwa [Nat.add_sub_cancel' hn] at this
theorem P6 (b1 b2:Nat) (f:Nat→(Int × Int) × Int) (n:Nat) (w:World) (h0:0<n) (hn:n≤1000)
  (H:Hid (∀ i,i<n→∀ w',Below w.heap.size w w'→Calls Tryz.prog 85 #[.int .i64 (i:Int),.pointer (some ⟨b1,0,none⟩),.pointer (some ⟨b2,0,none⟩)] w' (fun e w''=>e= .returned (dV (f i))∧Below w'.heap.size w' w''))) :
  Calls Tryz.prog 84 #[.int .i64 (n:Int),.func (.func 85) #[] #[.pointer (some ⟨b1,0,none⟩),.pointer (some ⟨b2,0,none⟩)],.func (.func 88) #[] #[]] w (fun e w'=>e= .returned (dV (fC f (n - 1)))∧Below w.heap.size w w'):=by
 obtain ⟨⟨⟨z1,z2⟩,z3⟩,HR⟩:∃ R,Hid (fC f (n - 1)=R):=⟨_,zh rfl⟩;rw [HR.out];have Yk:=H.out 0 h0;unfold dV at Yk ⊢;simp only;obtain ⟨⟨⟨x1,x2⟩,x3⟩,hx⟩:∃ x,f 0=x:=⟨_,rfl⟩;simp only [hx] at Yk;have HX:=zh hx;replace Yk:=zh Yk;clear hx
 by_cases hc:x3=0
 ·subst hc;have CV:Hid (fC f 0=((x1,x2),0)):=zh (by unfold fC;rw [HX.out,JD rfl]);clear HX;go_enter Tryz.func84,Tryz.ntmps84
  go_wp2_with fail
  refine (Yk.out _ ah).mono ?_;rintro e v1 ⟨rfl,hc1⟩;have BR:=au.later (au.alloc (au.new _ _ _) _) hc1;have bK:=BR.cell;have bL:=BR.free;have eG:=BR.lt;have BN:=au.later (au.oN _ _ _ _) hc1;have cBN:=BN.cell;have fBN:=BN.free;have lBN:=BN.lt;go_wp2_with fail
  have hbt:=au.new v1 #[.int .i64 x1,.int .i64 x2] 69;have hbr:=BR.alloc (.cells #[.int .i64 x1,.int .i64 x2] 69 (0,0));have hbn:=BN.alloc (.cells #[.int .i64 x1,.int .i64 x2] 69 (0,0));have hbw:Below w.heap.size w v1:=Bt ah hc1;have hnd:=eG;have om:=lBN;clear BR bK bL eG BN cBN fBN lBN;obtain ⟨B9,Z9⟩:∃ b,v1.heap.size=b:=⟨_,rfl⟩;rw [Z9] at hbt hnd om ⊢;have HB9:=zh Z9;clear Z9
  go_loopw [11] (fun iv wr=>∃ (k:Nat) (t1 t2:Int),iv= .int .i64 (k:Int)∧1≤k∧k≤n∧Hid (fC f (k - 1)=((t1,t2),0))∧Hid (au wr B9 #[.int .i64 t1,.int .i64 t2] 69)∧Hid (au wr w.heap.size #[.int .i64 0,.int .i64 0] 69)∧Hid (au wr (w.heap.size+1) #[.int .i64 0,.int .i64 0] 69)∧Hid (Below w.heap.size w wr)) (fun iv _=>n - (intOf iv).toNat)
  case atStart=>exact ⟨1,_,_,rfl,by omega,by omega,CV,zh hbt,zh hbr,zh hbn,zh (aJ hbw _)⟩
  case round =>
   obtain ⟨k,t1,t2,rfl,hk1,hk2,HS,HT,iQ,HN,HB⟩:=hrel;have ct:=HT.out.cell;have ft:=HT.out.free;have lt:=HT.out.lt;have cr:=iQ.out.cell;have fr:=iQ.out.free;have lr:=iQ.out.lt;have cn:=HN.out.cell;have fn:=HN.out.free;have ln:=HN.out.lt;have hne:w.heap.size≠B9:=by omega
   have hne2:B9≠w.heap.size:=by omega
   have ao2:w.heap.size+1≠B9:=by omega
   have aK3:B9≠w.heap.size+1:=by omega
   rcases Nat.lt_or_ge k n with hlt|hge
   ·have HFk:=H.out k hlt;unfold dV at HFk;obtain ⟨⟨⟨y1,y2⟩,y3⟩,hy⟩:∃ x,f k=x:=⟨_,rfl⟩;simp only [hy] at HFk;have HY:=zh hy;replace HFk:=zh HFk;clear hy
    by_cases hy3:y3=0
    ·subst hy3;have HA:=dJ.KO t1 t2 y1 y2;unfold dV at HA;obtain ⟨⟨⟨a1,a2⟩,a3⟩,ha⟩:∃ x,iC (t1,t2) (y1,y2)=x:=⟨_,rfl⟩;simp only [ha] at HA;have HA':=zh HA
     have MG:Hid (fC f k=JE ((a1,a2),a3)):=zh (by
      obtain ⟨j,rfl⟩:∃ j,k=j+1:=⟨k - 1,by omega⟩;have h1:fC f j=((t1,t2),0):=HS.out;unfold fC;rw [h1,if_pos rfl,HY.out,if_pos rfl,ha])
     clear HA ha
     by_cases ha3:a3=0
     ·subst ha3;have HN2:Hid (fC f k=((a1,a2),0)):=zh (by rw [MG.out,JD rfl]);clear MG;go_wp2_with fail
      refine (HFk.out _ HB.out).mono ?_;rintro e v2 ⟨rfl,hc2⟩;have ht2:=HT.out.later hc2;replace ct:=ht2.cell;replace ft:=ht2.free;replace lt:=ht2.lt;have hr2:=iQ.out.later hc2;replace cr:=hr2.cell;replace fr:=hr2.free;replace lr:=hr2.lt;have hn2:=HN.out.later hc2;replace cn:=hn2.cell;replace fn:=hn2.free;replace ln:=hn2.lt;have hb2:=Bt HB.out hc2;go_wp2_with fail
      refine (HA'.out _).mono ?_;rintro e v3 ⟨rfl,hc3⟩;have ht3:=(ht2.alloc _).later hc3;replace ct:=ht3.cell;replace ft:=ht3.free;replace lt:=ht3.lt;have hr3:=(hr2.alloc _).later hc3;replace cr:=hr3.cell;replace fr:=hr3.free;replace lr:=hr3.lt;have Oa:=(hn2.alloc _).later hc3;replace cn:=Oa.cell;replace fn:=Oa.free;replace ln:=Oa.lt;have hb3:=Bt (aJ hb2 _) hc3;clear ht2 hr2 hn2;go_wp2_with fail
      go_roundw
      case rel =>
       refine ⟨k+1,a1,a2,by go_num,by omega,by omega,HN2,zh ((ht3.set 0 _).set 1 _),zh ((hr3.setOther _ hne).setOther _ hne),zh ((Oa.setOther _ ao2).setOther _ ao2),zh ((hb3.setCell (by simp;omega) _).setCell (by simp;omega) _)⟩
      case measure=>exact zM
     ·have hd:decide (a3=0)=false:=decide_eq_false ha3
      have hR:((z1,z2),z3)=((0,0),a3):=by
       rw [← HR.out];have e1:fC f k=((0,0),a3):=by rw [MG.out,DL ha3]
       rw [nW (j:=k) (by rw [e1];exact ha3) zo,e1]
      simp only [Prod.mk.injEq] at hR;obtain ⟨⟨rfl,rfl⟩,rfl⟩:=hR;clear MG;go_wp2_with fail
      refine (HFk.out _ HB.out).mono ?_;rintro e v2 ⟨rfl,hc2⟩;have ht2:=HT.out.later hc2;replace ct:=ht2.cell;replace ft:=ht2.free;replace lt:=ht2.lt;have hr2:=iQ.out.later hc2;replace cr:=hr2.cell;replace fr:=hr2.free;replace lr:=hr2.lt;have hn2:=HN.out.later hc2;replace cn:=hn2.cell;replace fn:=hn2.free;replace ln:=hn2.lt;have hb2:=Bt HB.out hc2;go_wp2_with fail
      refine (HA'.out _).mono ?_;rintro e v3 ⟨rfl,hc3⟩;have ht3:=(ht2.alloc _).later hc3;replace ct:=ht3.cell;replace ft:=ht3.free;replace lt:=ht3.lt;have hr3:=(hr2.alloc _).later hc3;replace cr:=hr3.cell;replace fr:=hr3.free;replace lr:=hr3.lt;have Oa:=(hn2.alloc _).later hc3;replace cn:=Oa.cell;replace fn:=Oa.free;replace ln:=Oa.lt;have hb3:=Bt (aJ hb2 _) hc3;clear ht2 hr2 hn2;go_wp2_with fail
      refine aP rfl rfl ((((hr3.setOther (a:=⟨B9,0,none⟩) _ hne).setOther (a:=⟨B9,1,none⟩) _ hne).set 0 _).set 1 _) Tryz.underlying69 rfl zk ?_;exact ⟨rfl,(((hb3.setCell (by simp;omega) _).setCell (by simp;omega) _).setCell zi _).setCell zi _⟩
    ·have hd:decide (y3=0)=false:=decide_eq_false hy3
     have hR:((z1,z2),z3)=((0,0),y3):=by
      rw [← HR.out]
      have e1:fC f k=((0,0),y3):=by
       obtain ⟨j,rfl⟩:∃ j,k=j+1:=⟨k - 1,by omega⟩;have h1:fC f j=((t1,t2),0):=HS.out;unfold fC;rw [h1,if_pos rfl,HY.out,if_neg hy3]
      rw [nW (j:=k) (by rw [e1];exact hy3) zo,e1]
     simp only [Prod.mk.injEq] at hR;obtain ⟨⟨rfl,rfl⟩,rfl⟩:=hR;go_wp2_with fail
     refine (HFk.out _ HB.out).mono ?_;rintro e v2 ⟨rfl,hc2⟩;have ht2:=HT.out.later hc2;replace ct:=ht2.cell;replace ft:=ht2.free;replace lt:=ht2.lt;have hr2:=iQ.out.later hc2;replace cr:=hr2.cell;replace fr:=hr2.free;replace lr:=hr2.lt;have hn2:=HN.out.later hc2;replace cn:=hn2.cell;replace fn:=hn2.free;replace ln:=hn2.lt;have hb2:=Bt HB.out hc2;go_wp2_with fail
     refine aP rfl rfl (((hr2.set 0 _).set 1 _).alloc _) Tryz.underlying69 rfl zk ?_;exact ⟨rfl,aJ ((hb2.setCell zi _).setCell zi _) _⟩
   ·obtain rfl:k=n:=by omega
    have hR:((z1,z2),z3)=((t1,t2),0):=by rw [← HR.out,HS.out]
    simp only [Prod.mk.injEq] at hR;obtain ⟨⟨rfl,rfl⟩,rfl⟩:=hR;go_wp2_with fail
    refine aP rfl rfl ((iQ.out.set 0 _).set 1 _) Tryz.underlying69 rfl zk ?_;exact ⟨rfl,(HB.out.setCell zi _).setCell zi _⟩
 ·have hr:((z1,z2),z3)=((0,0),x3):=by
   rw [← HR.out];have e0:fC f 0=((0,0),x3):=by unfold fC;rw [HX.out,DL hc]
   rw [nW (j:=0) (by rw [e0];exact hc) zo,e0]
  have hd:decide (x3=0)=false:=decide_eq_false hc;simp only [Prod.mk.injEq] at hr;obtain ⟨⟨rfl,rfl⟩,rfl⟩:=hr;clear HR;go_enter Tryz.func84,Tryz.ntmps84
  go_wp2_with fail
  refine (Yk.out _ ah).mono ?_;rintro e v1 ⟨rfl,hc1⟩;have BR:=au.later (au.alloc (au.new _ _ _) _) hc1;have bK:=BR.cell;have bL:=BR.free;have eG:=BR.lt;have BN:=au.later (au.oN _ _ _ _) hc1;have cBN:=BN.cell;have fBN:=BN.free;have lBN:=BN.lt;go_wp2_with fail
  refine aP rfl rfl aT Tryz.underlying69 rfl zk ?_;exact ⟨rfl,ah⟩
def pU (a:Fr) (x:Int × Int):(Int × Int) × Int:=if (fJ a).2=0 then dJ.qH (fJ a).1 x else ((0,0),(fJ a).2)
theorem Iw (b1 b2 b off cap nr b' off' cap' nl i:Nat) (s t:ByteArray) (x1 x2:Int) (w:World) (hb1:au w b1 #[.slice (some ⟨b,off,none⟩) nr cap] 29) (hb2:au w b2 #[.slice (some ⟨b',off',none⟩) nl cap'] 63) (h1:i<nr) (h2:i<nl) (hbl:b<w.heap.size) (nE:b'<w.heap.size)
  (Pm:w.cell? ⟨b,off+i*2,none⟩=some (.string s)) (Pk:w.cell? ⟨b,off+i*2+1,none⟩=some (.string t)) (BO:w.cell? ⟨b',off'+i*2,none⟩=some (.int .i64 x1)) (Oq:w.cell? ⟨b',off'+i*2+1,none⟩=some (.int .i64 x2)) (ht:oO.Pow w) (he:whole.Er w) :
  Calls Tryz.prog 85 #[.int .i64 (i:Int),.pointer (some ⟨b1,0,none⟩),.pointer (some ⟨b2,0,none⟩)] w (fun e w'=>e= .returned (dV (pU ⟨s,t⟩ (x1,x2)))∧Below w.heap.size w w'):=by
 have cb1:=hb1.cell;have lb1:=hb1.lt;have HB2:=zh hb2;have lb2:=hb2.lt;have HA:Hid (∀ W,Below w.heap.size w W→Calls Tryz.prog 86 #[.agg #[.string s,.string t]] W (fun e w'=>e= .returned (dV (fJ ⟨s,t⟩))∧Below W.heap.size W w')):=zh fun W hW=>wS ⟨s,t⟩ W (ht.later hW) (he.later hW);have HT:pU ⟨s,t⟩ (x1,x2)=if (fJ ⟨s,t⟩).2=0 then dJ.qH (fJ ⟨s,t⟩).1 (x1,x2) else ((0,0),(fJ ⟨s,t⟩).2):=rfl
 rw [HT];clear HT hb2 ht he;generalize fJ ⟨s,t⟩=r at *;obtain ⟨⟨y1,y2⟩,y3⟩:=r;simp only
 by_cases h3:y3=0
 ·subst h3;rw [if_pos rfl];have HM:=zh (fun W=>dJ.Kr y1 y2 x1 x2 W);generalize dJ.qH (y1,y2) (x1,x2)=m at *;obtain ⟨⟨m1,m2⟩,m3⟩:=m;unfold dV at *;simp only at *;go_enter Tryz.func85,Tryz.ntmps85
  go_wp2_with fail
  refine (HA.out _ ah).mono ?_;rintro e v1 ⟨rfl,hc1⟩;have BR:=au.later (au.new _ _ _) hc1;have bK:=BR.cell;have bL:=BR.free;have eG:=BR.lt;go_wp2_with fail
  have hB:Below w.heap.size w v1:=ah;have hb2:=HB2.out.later hB;have cb2:=hb2.cell;replace lb2:=hb2.lt;have dy1:=(hB.cell (p:=⟨b',off'+i*2,none⟩) nE).trans BO;have dy2:=(hB.cell (p:=⟨b',off'+i*2+1,none⟩) nE).trans Oq;have lb':b'<v1.heap.size:=by have:=hB.size;omega
  clear cb1 Pm Pk BO Oq;refine aD [(.read,0),(.read,1),(.pure,2),(.pure,3),(.read,4),(.ext,5),(.pure,6),(.pure,7),(.fin,8),(.fin,9)] zk zk zR zP ?_;refine zV ?_;refine aG rfl rfl (fun w5 hb5 J hJ=>?_);go_simp;replace BR:au _ (w.heap.size) _ _:=au.later aT hb5;(try simp only [List.setIfInBounds_toArray,List.set_cons_zero,List.set_cons_succ] at BR);replace bK:=BR.cell;replace bL:=BR.free;replace eG:=BR.lt;refine (HM.out _).mono ?_;rintro e v5 ⟨rfl,nT⟩;replace BR:=au.later (BR) nT;replace bK:=BR.cell;replace bL:=BR.free;replace eG:=BR.lt;refine hJ _ _ nT ?_;clear hJ J;refine zV ?_;refine aL [_,_] rfl (fun w9 nU=>?_);replace BR:=au.later (BR) nU;replace bK:=BR.cell;replace bL:=BR.free;replace eG:=BR.lt;go_wp2_with fail
  refine aP rfl rfl aT Tryz.underlying69 rfl zk ?_;exact ⟨rfl,ah⟩
 ·rw [if_neg h3];have hd:decide (y3=0)=false:=decide_eq_false h3;unfold dV at *;simp only at *;go_enter Tryz.func85,Tryz.ntmps85
  go_wp2_with fail
  refine (HA.out _ ah).mono ?_;rintro e v1 ⟨rfl,hc1⟩;have BR:=au.later (au.new _ _ _) hc1;have bK:=BR.cell;have bL:=BR.free;have eG:=BR.lt;go_wp2_with fail
  refine aP rfl rfl aT Tryz.underlying69 rfl zk ?_;exact ⟨rfl,ah⟩
theorem OC (b1 b2:Nat) (vr vl:Value) (row:List Fr) (l:List (Int × Int)) (i:Nat) (w:World) (hr:gX w 59 vr row) (hl:jZ w 69 vl l) (hb1:au w b1 #[vr] 29) (hb2:au w b2 #[vl] 63) (h1:i<row.length) (h2:i<l.length) (ht:oO.Pow w) (he:whole.Er w) :
  Calls Tryz.prog 85 #[.int .i64 (i:Int),.pointer (some ⟨b1,0,none⟩),.pointer (some ⟨b2,0,none⟩)] w (fun e w'=>e= .returned (dV (pU row[i] l[i]))∧Below w.heap.size w w'):=by
 obtain ⟨a,cap,rfl,hc1,hc2,hread⟩:=hr.read;obtain ⟨a',cap',rfl,hc1',hc2',wF⟩:=hl.read;obtain ⟨b,off,rfl,hbl,Pm,Pk⟩:=hread i h1;obtain ⟨b',off',rfl,nE,BO,Oq⟩:=wF i h2;exact Iw b1 b2 b off cap row.length b' off' cap' l.length i _ _ _ _ w hb1 hb2 h1 h2 hbl nE Pm Pk BO Oq ht he
end Go.Proofs.matrix
namespace Go.Proofs.matrix
open Go Go.RowKit Go.Shelf Go.SW Go.Num Go.Mem Go.Proofs Go.Dec Go.cK dJ
attribute [local go_sem] Oper.semAt_some
def gL (row:List Fr) (l:List (Int × Int)):(Int × Int) × Int:=fC (fun i=>pU (row.getD i Fr.no) (l.getD i (0,0))) (row.length - 1)
def nM:List (List Fr)→List (Int × Int)→List (Int × Int) × Int
 | [],_=>([],0)
 | r::m,l=>if (gL r l).2=0 then (if (nM m l).2=0 then ((gL r l).1::(nM m l).1,0) else ([],(nM m l).2)) else ([],(gL r l).2)
def jV (m:List (List Fr)) (l:List (Int × Int)):List (Int × Int) × Int :=
 if jQ m then (if l.all (fun x=>gV x.1 x.2) then (if l.length=(m.headD []).length then nM m l else ([],2)) else ([],30)) else ([],50)
def lW (w:World) (r:List (Int × Int) × Int) (e:Ending) (w':World):Prop:=∃ v,e= .returned (.tuple #[v,.int .i64 r.2])∧Below w.heap.size w w'∧jZ w' 69 v r.1
theorem Iu (a:Option Addr) (n cap:Nat) (v:Value) (m:List (List Fr)) (w:World) (h:aN w (.slice a n cap) m) (hk:jQ m=false) (p:Option Addr) (k c:Nat) :
  Calls Tryz.prog 41 #[.slice a n cap,.slice p k c] w (lW w ([],50)):=by
 have HC:=zh (fun W hW=>dw (.slice a n cap) m W (h.later hW));unfold gZ at HC;rw [hk] at HC;unfold lW;clear h hk;go_enter Tryz.func41,Tryz.ntmps41
 go_wp2_with fail
 refine (HC.out _ ah).mono ?_;rintro e w1 ⟨rfl,hc1⟩;have B0:=au.later (au.alloc (au.alloc (au.new _ _ _) _) _) hc1;have cB0:=B0.cell;have jc:=B0.free;have lB0:=B0.lt;have BR:=au.later (au.alloc (au.oN _ _ _ _) _) hc1;have bK:=BR.cell;have bL:=BR.free;have eG:=BR.lt;have BE:=au.later (au.at2 _ _ _ _ _) hc1;have cBE:=BE.cell;have fBE:=BE.free;have lBE:=BE.lt;go_wp2_with fail
 have hne:w.heap.size+1≠w.heap.size+1+1:=by omega
 have x1:=((BR.set 0 (.slice none 0 0)).setOther (a:=⟨w.heap.size+1+1,0,none⟩) (.int .i64 50) hne).cell 0;have x2:=(au.set (BE.setOther (a:=⟨w.heap.size+1,0,none⟩) (.slice none 0 0) hne.symm) 0 (.int .i64 50)).cell 0;simp at x1 x2
 refine bodyPost_ret (v:=.tuple #[.slice none 0 0,.int .i64 50]) (by simp [results,Tryz.results41,go_sem,x1,x2]) rfl ⟨_,rfl,ah,none,0,rfl,Nat.le_refl _,by omega,fun _ h=>by cases h⟩
def lZ (w:World) (p:Option Addr) (nl:Nat) (g:Nat→Int × Int):Prop :=
 ∀ k,k<nl→∃ b off,p=some ⟨b,off,none⟩∧b<w.heap.size∧w.cell? ⟨b,off+k*2,none⟩=some (.int .i64 (g k).1)∧w.cell? ⟨b,off+k*2+1,none⟩=some (.int .i64 (g k).2)
theorem lZ.later {w w':World} {p:Option Addr} {nl:Nat} {g:Nat→Int × Int} (h:lZ w p nl g) (hb:Below w.heap.size w w'):lZ w' p nl g:=fun k hk=>by
 obtain ⟨b,off,h1,h2,h3,h4⟩:=h k hk;exact ⟨b,off,h1,Nat.lt_of_lt_of_le h2 hb.size,(hb.cell (p:=⟨b,off+k*2,none⟩) h2).trans h3,(hb.cell (p:=⟨b,off+k*2+1,none⟩) h2).trans h4⟩
theorem AP (b off cap Bh:Nat) (a0:Option Addr) (cap0 n nl:Nat) (m:List (List Fr)) (g:Nat→Int × Int) (z:Int) (p:Option Addr) (c:Nat) (w:World) (h:aN w (.slice (some ⟨b,off,none⟩) n cap) m) (hk:jQ m=true) (hl:lZ w p nl g) (hc0:w.cell? ⟨b,off,none⟩=some (.slice a0 Bh cap0)) (lb:b<w.heap.size) (hn:0<n)
  (hz:((∃ k,k<nl∧gV (g k).1 (g k).2=false)∧z=30)∨((∀ k,k<nl→gV (g k).1 (g k).2=true)∧nl≠Bh∧z=2)) (aF3:nl≤1000000) :
  Calls Tryz.prog 41 #[.slice (some ⟨b,off,none⟩) n cap,.slice p nl c] w (lW w ([],z)):=by
 have HC:=zh (fun W hW=>dw (.slice (some ⟨b,off,none⟩) n cap) m W (h.later hW));unfold gZ at HC;rw [hk,if_pos rfl] at HC;unfold lW;have HL:=zh hl;have HZ:=zh hz;clear h hk hl hz;go_enter Tryz.func41,Tryz.ntmps41
 go_wp2_with fail
 refine (HC.out _ ah).mono ?_;rintro e w1 ⟨rfl,hc1⟩;have B0:=au.later (au.alloc (au.alloc (au.new _ _ _) _) _) hc1;have cB0:=B0.cell;have jc:=B0.free;have lB0:=B0.lt;have BR:=au.later (au.alloc (au.oN _ _ _ _) _) hc1;have bK:=BR.cell;have bL:=BR.free;have eG:=BR.lt;have BE:=au.later (au.at2 _ _ _ _ _) hc1;have cBE:=BE.cell;have fBE:=BE.free;have lBE:=BE.lt;have hB1:Below w.heap.size w w1:=ah;have Px:=zh (HL.out.later hB1);have cc0:=(hB1.cell (p:=⟨b,off,none⟩) lb).trans hc0;have HC0:=zh cc0;have lb1:b<w1.heap.size:=Nat.lt_of_lt_of_le lb hB1.size;clear hc0 lb HL cc0;go_wp2_with fail
 go_loopw [22] (fun iv wr=>∃ k:Nat,k≤nl∧iv= .int .i64 (k:Int)∧Hid (∀ j,j<k→gV (g j).1 (g j).2=true)∧Hid (Below w1.heap.size w1 wr)) (fun iv _=>nl - (intOf iv).toNat)
 case atStart=>exact ⟨0,by omega,rfl,zh (fun j h=>by omega),zh (Below.refl _ _)⟩
 case round =>
  obtain ⟨k,hk,rfl,MC,HB⟩:=hrel;have YC:=BR.later HB.out;have BE1:=BE.later HB.out
  rcases Nat.lt_or_ge k nl with hlt|hge
  ·obtain ⟨b',off',hp,lb',Pm,Pk⟩:=Px.out.later HB.out k hlt;subst hp;have HV:=zh (fun W=>dJ.dw (g k).1 (g k).2 W);obtain ⟨bb,hbb⟩:∃ x,gV (g k).1 (g k).2=x:=⟨_,rfl⟩;rw [hbb] at HV;have Uu:Hid (∀ j,j=k→gV (g j).1 (g j).2=bb):=zh (by rintro j rfl;exact hbb);clear hbb;generalize (g k).1=y1 at *;generalize (g k).2=y2 at *;have lbB:w1.heap.size≤wr.heap.size:=HB.out.size;cases bb with
   | true =>
    rw [if_pos rfl] at HV;have bK:=YC.cell;have eG:=YC.lt;have cBE:=BE1.cell;have lBE:=BE1.lt;go_wp2_with fail
    refine (HV.out _).mono ?_;rintro e w2 ⟨rfl,hc2⟩;have hB2:Below w1.heap.size w1 w2:=Bt (aJ HB.out _) hc2;go_wp2_with fail
    go_roundw
    case rel =>
     refine ⟨k+1,by omega,by go_num,zh (fun j hj=>?_),zh hB2⟩
     rcases Nat.lt_or_ge j k with h|h
     ·exact MC.out j h
     ·obtain rfl:j=k:=by omega
      exact Uu.out j rfl
    case measure=>exact zM
   | false =>
    have ay5:z=30:=by
     rcases HZ.out with ⟨_,h⟩|⟨h,_⟩
     ·exact h
     ·have:=h k hlt;rw [Uu.out k rfl] at this;cases this
    subst ay5;rw [if_neg zi] at HV;go_wp2_with fail
    refine (HV.out _).mono ?_;rintro e w2 ⟨rfl,hc2⟩;have hB2':Below w1.heap.size w1 w2:=Bt (aJ HB.out _) hc2;have hB2:Below w.heap.size w w2:=Bt hB1 hB2';have Pb:=BR.later hB2';have MO:=BE.later hB2';have bK:=Pb.cell;have bL:=Pb.free;have eG:=Pb.lt;have cBE:=MO.cell;have fBE:=MO.free;have lBE:=MO.lt;go_wp2_with fail
    have hne:w.heap.size+1≠w.heap.size+1+1:=by omega
    have x1:=((Pb.set 0 (.slice none 0 0)).setOther (a:=⟨w.heap.size+1+1,0,none⟩) (.int .i64 30) hne).cell 0;have x2:=(au.set (MO.setOther (a:=⟨w.heap.size+1,0,none⟩) (.slice none 0 0) hne.symm) 0 (.int .i64 30)).cell 0;simp at x1 x2
    refine bodyPost_ret (v:=.tuple #[.slice none 0 0,.int .i64 30]) (by simp [results,Tryz.results41,go_sem,x1,x2]) rfl ⟨_,rfl,(hB2.setCell zi _).setCell (by simp;omega) _,none,0,rfl,Nat.le_refl _,by omega,fun _ h=>by cases h⟩
  ·obtain rfl:k=nl:=by omega
   have hz2:k≠Bh∧z=2:=by
    rcases HZ.out with ⟨⟨j,h1,h2⟩,_⟩|⟨_,h⟩
    ·rw [MC.out j h1] at h2;cases h2
    ·exact h
   obtain ⟨hkn,rfl⟩:=hz2;have hkn2:decide ((k:Int)=(Bh:Int))=false:=decide_eq_false zo;have aL1:((k:Int) != (Bh:Int))=true:=by simp;omega
   have cc:=(HB.out.cell (p:=⟨b,off,none⟩) lb1).trans HC0.out;have BB1:=B0.later HB.out;replace cB0:=BB1.cell;replace lB0:=BB1.lt;have lbB:w1.heap.size≤wr.heap.size:=HB.out.size;have lb2:b<wr.heap.size:=by omega
   go_wp2_with fail
   refine aD [(.read,0),(.pure,1),(.pure,2),(.pure,3),(.read,4),(.pure,5),(.pure,6)] zk zk zR zP ?_;refine zV ?_;refine walk_nil (fun w2 hw2=>?_);have hB2':Below w1.heap.size w1 w2:=Bt (Bt HB.out (Below.drew (Below.refl _ _))) hw2;have hB2:Below w.heap.size w w2:=Bt hB1 hB2';have Pb:=BR.later hB2';have MO:=BE.later hB2';replace bK:=Pb.cell;replace bL:=Pb.free;replace eG:=Pb.lt;replace cBE:=MO.cell;replace fBE:=MO.free;replace lBE:=MO.lt;go_wp2_with fail
   have hne:w.heap.size+1≠w.heap.size+1+1:=by omega
   have x1:=((Pb.set 0 (.slice none 0 0)).setOther (a:=⟨w.heap.size+1+1,0,none⟩) (.int .i64 2) hne).cell 0;have x2:=(au.set (MO.setOther (a:=⟨w.heap.size+1,0,none⟩) (.slice none 0 0) hne.symm) 0 (.int .i64 2)).cell 0;simp at x1 x2
   refine bodyPost_ret (v:=.tuple #[.slice none 0 0,.int .i64 2]) (by simp [results,Tryz.results41,go_sem,x1,x2]) rfl ⟨_,rfl,(hB2.setCell zi _).setCell (by simp;omega) _,none,0,rfl,Nat.le_refl _,by omega,fun _ h=>by cases h⟩
end Go.Proofs.matrix
namespace Go.Proofs.matrix
open Go Go.Num Go.Proofs Go.cK dJ
def Good (r:(Int × Int) × Int):Prop:=(r.2=0∧gV r.1.1 r.1.2=true)∨r=((0,0),6)
theorem Good.err {r:(Int × Int) × Int} (h:Good r):r.2=0∨r.2=6:=by
 rcases h with h|rfl
 ·exact .inl h.1
 ·exact .inr rfl
theorem wu (lo hi:Int):Good (gF lo hi):=by
 unfold gF;cases h:gV lo hi with
 | true=>rw [if_pos rfl];exact .inl ⟨rfl,h⟩
 | false=>rw [if_neg zi];exact .inr rfl
theorem AU {a:Fr} (h:(rd a).isSome=true):Good (fJ a):=by
 unfold fJ;cases e:rd a with
 | none=>rw [e] at h;cases h
 | some q=>exact wu _ _
theorem PU {a b:Int × Int} (ha:gV a.1 a.2=true) (hb:gV b.1 b.2=true):okB [a,b]=true:=by
 unfold okB;simp only [List.all_cons,List.all_nil,Bool.and_true,Bool.and_eq_true];exact ⟨ha,hb⟩
theorem QS {a b:Int × Int} (ha:gV a.1 a.2=true) (hb:gV b.1 b.2=true):Good (dJ.qH a b):=by
 unfold dJ.qH uq;rw [if_pos (PU ha hb)];split
 ·exact wu _ _
 ·exact .inr rfl
theorem TA {a b:Int × Int} (ha:gV a.1 a.2=true) (hb:gV b.1 b.2=true):Good (iC a b):=by
 unfold iC;rw [if_pos (PU ha hb)];exact wu _ _
theorem M9 {a:Fr} {x:Int × Int} (h:(rd a).isSome=true) (hx:gV x.1 x.2=true):Good (pU a x):=by
 have h1:=AU h;unfold pU
 rcases h1 with h1|h1
 ·rw [if_pos h1.1];exact QS h1.2 hx
 ·rw [h1,if_neg zi];exact .inr rfl
theorem GH {r:(Int × Int) × Int} (h:Good r):Good (JE r):=by
 unfold JE
 rcases h with h|rfl
 ·rw [if_pos h.1];exact .inl h
 ·exact .inr rfl
theorem CF {f:Nat→(Int × Int) × Int}:∀ k,(∀ i,i≤k→Good (f i))→Good (fC f k)
 | 0,h=>GH (h 0 (Nat.le_refl _))
 | k+1,h=>by
  have h1:=CF k (fun i hi=>h i zo);have h2:=h (k+1) (Nat.le_refl _);unfold fC
  rcases h1 with h1|h1
  ·rw [if_pos h1.1]
   rcases h2 with h2|h2
   ·rw [if_pos h2.1];exact GH (TA h1.2 h2.2)
   ·rw [h2,if_neg zi];exact .inr rfl
  ·rw [h1,if_neg zi];exact .inr rfl
theorem Qg {row:List Fr} {l:List (Int × Int)} (h:∀ a∈row,(rd a).isSome=true) (hl:∀ x∈l,gV x.1 x.2=true) (h1:1≤row.length) (h2:row.length≤l.length):Good (gL row l):=by
 unfold gL;refine CF _ fun i hi=>?_;have i1:i<row.length:=by omega
 have i2:i<l.length:=by omega
 have e1:row.getD i Fr.no=row[i]:=by simp [i1]
 have e2:l.getD i (0,0)=l[i]:=by simp [i2]
 rw [e1,e2];exact M9 (h _ (List.getElem_mem _)) (hl _ (List.getElem_mem _))
theorem Gq {m:List (List Fr)} {l:List (Int × Int)} (h:∀ r∈m,(gL r l).2=0):nM m l=(m.map fun r=>(gL r l).1,0):=by
 induction m with
 | nil=>rfl
 | cons r m ih =>
  unfold nM;rw [if_pos (h r zi),ih (fun x hx=>h x (by simp [hx])),if_pos rfl];rfl
theorem Nh {m:List (List Fr)} {l:List (Int × Int)} (hg:∀ r∈m,Good (gL r l)) (h:∃ r∈m,(gL r l).2=6):nM m l=([],6):=by
 induction m with
 | nil=>obtain ⟨r,hr,_⟩:=h;cases hr
 | cons r m ih =>
  unfold nM
  rcases (hg r zi).err with h1|h1
  ·rw [if_pos h1]
   have h2:∃ x∈m,(gL x l).2=6:=by
    obtain ⟨x,hx,hx6⟩:=h
    rcases List.mem_cons.1 hx with rfl|hx
    ·rw [h1] at hx6;cases hx6
    ·exact ⟨x,hx,hx6⟩
   rw [ih (fun x hx=>hg x (by simp [hx])) h2,if_neg zi]
  ·rw [if_neg (by rw [h1];simp),h1]
end Go.Proofs.matrix
namespace Go.Proofs.matrix
open Go Go.RowKit Go.Shelf Go.SW Go.Num Go.Mem Go.Proofs Go.Dec Go.cK dJ
attribute [local go_sem] Oper.semAt_some
theorem zL:(Tryz.prog.info? 69).map (fun i=>(i.zero,i.size,i.bytes))=some (some (.agg #[.int .i64 0,.int .i64 0]),2,16):=by kernel_rfl
theorem JG (n:Nat) (hn:n≤1000):∃ cs:Array Value,cs.size=n*2∧∀ W:World,(Instr.makeSlice 63 (.int .i64 (n:Int)) (.int .i64 (n:Int))).run Tryz.prog W= .ok (.slice (some ⟨W.heap.size,0,none⟩) n n) (W.alloc (.cells cs 69)):=by
 obtain ⟨i0,hi,hz0,hz1,hz2⟩:=info_parts zL;refine ⟨madeCells (Value.agg #[.int .i64 0,.int .i64 0]).cells (n*2),size_madeCells _ _,fun W=>?_⟩;have:=run_makeSlice (P:=Tryz.prog) W 63 69 i0 (.agg #[.int .i64 0,.int .i64 0]) Tryz.underlying63 hi hz0 .i64 .i64 (n:Int) (n:Int) zo (Int.le_refl _) (by rw [hz1];simp;omega) (by rw [hz2];omega) zo;rw [hz1] at this
 simpa using this
def jy (w:World) (q:Nat) (n:Nat) (D:Nat→Prop) (f:Nat→Int × Int):Prop :=
 ∃ arr,au w q arr 69∧arr.size=n*2∧∀ i,i<n→D i→arr[i*2]? =some (.int .i64 (f i).1)∧arr[i*2+1]? =some (.int .i64 (f i).2)
theorem jy.later {w w':World} {q n:Nat} {D:Nat→Prop} {f:Nat→Int × Int} (h:jy w q n D f) (hb:Below w.heap.size w w'):jy w' q n D f:=by
 obtain ⟨arr,h1,h2⟩:=h;exact ⟨arr,h1.later hb,h2⟩
theorem jy.kept {w w':World} {q n:Nat} {D:Nat→Prop} {f:Nat→Int × Int} (h:jy w q n D f) (k:Keep [] w w'):jy w' q n D f:=by
 obtain ⟨arr,h1,h2⟩:=h;exact ⟨arr,k _ _ _ zi h1,h2⟩
theorem jy.cells {w:World} {q n j:Nat} {D:Nat→Prop} {f:Nat→Int × Int} (h:jy w q n D f) (hj:j<n) :
  (∃ x,w.cell? ⟨q,j*2,none⟩=some x)∧(∃ y,w.cell? ⟨q,j*2+1,none⟩=some y)∧(∀ o,w.frozen? ⟨q,o,none⟩=false)∧q<w.heap.size:=by
 obtain ⟨arr,h1,h2,h3⟩:=h;refine ⟨⟨arr[j*2]'zo,?_⟩,⟨arr[j*2+1]'zo,?_⟩,h1.free,h1.lt⟩
 ·rw [h1.cell];exact Array.getElem?_eq_getElem _
 ·rw [h1.cell];exact Array.getElem?_eq_getElem _
theorem jy.put {w:World} {q n j:Nat} {D D':Nat→Prop} {f:Nat→Int × Int} {s t:Int} (h:jy w q n D f) (hj:j<n) (hs:s=(f j).1) (ht:t=(f j).2) (hD:∀ i,D' i→i=j∨D i) :
  jy ((w.setCell ⟨q,j*2,none⟩ (.int .i64 s)).setCell ⟨q,j*2+1,none⟩ (.int .i64 t)) q n D' f:=by
 subst hs ht;obtain ⟨arr,h1,h2,h3⟩:=h;refine ⟨(arr.setIfInBounds (j*2) (.int .i64 (f j).1)).setIfInBounds (j*2+1) (.int .i64 (f j).2),(h1.set _ _).set _ _,by simp [h2],fun i hi hd=>?_⟩
 by_cases e:i=j
 ·subst e;refine ⟨?_,?_⟩
  ·rw [Array.getElem?_setIfInBounds,if_neg zo,Array.getElem?_setIfInBounds,if_pos rfl,if_pos zo]
  ·rw [Array.getElem?_setIfInBounds,if_pos rfl,if_pos (by simp;omega)]
 ·obtain ⟨k1,k2⟩:=h3 i hi ((hD i hd).resolve_left e);refine ⟨?_,?_⟩
  ·rw [Array.getElem?_setIfInBounds,if_neg zo,Array.getElem?_setIfInBounds,if_neg zo,k1]
  ·rw [Array.getElem?_setIfInBounds,if_neg zo,Array.getElem?_setIfInBounds,if_neg zo,k2]
theorem jy.start {w:World} {q n:Nat} {cs:Array Value} {f:Nat→Int × Int} (h:au w q cs 69) (hs:cs.size=n*2):jy w q n (fun _=>False) f:=⟨cs,h,hs,fun i _ h=>h.elim⟩
theorem jy.bds {w:World} {q n:Nat} {D:Nat→Prop} {l:List (Int × Int)} (h:jy w q n D (fun i=>l.getD i (0,0))) (hD:∀ i,i<n→D i) (hn:l.length=n) (hl:n≤1000000):jZ w 69 (.slice (some ⟨q,0,none⟩) n n) l:=by
 obtain ⟨arr,h1,h2,h3⟩:=h;refine jZ.pz h1 hn (Nat.le_refl _) zo fun i hi=>?_;have:=h3 i zo (hD i zo)
 simpa [hi] using this
attribute [local go_sem] Oper.semAt_some
theorem lZ.of {w:World} {T:TypeId} {p:Option Addr} {n c:Nat} {l:List (Int × Int)} (h:jZ w T (.slice p n c) l) (hn:l.length=n):lZ w p n (fun i=>l.getD i (0,0)):=by
 subst hn;obtain ⟨a,cap,hv, -, -, hread⟩:=h.read;cases hv
 intro k hk;obtain ⟨b,off,h1,h2,h3,h4⟩:=hread k hk;have e:l.getD k (0,0)=l[k]:=by simp [hk]
 exact ⟨b,off,h1,h2,by simp only [e];exact h3,by simp only [e];exact h4⟩
theorem jy.other {w:World} {q n:Nat} {D:Nat→Prop} {f:Nat→Int × Int} (h:jy w q n D f) {a:Addr} (u:Value) (hne:q≠a.block):jy (w.setCell a u) q n D f:=by
 obtain ⟨arr,h1,h2⟩:=h;exact ⟨arr,h1.setOther u hne,h2⟩
theorem tL (b off cap Bh:Nat) (a0:Option Addr) (cap0 n:Nat) (m:List (List Fr)) (l:List (Int × Int)) (p:Option Addr) (c:Nat) (w:World) (rs:List Value) (hm:rs.length=m.length) (hR:Row w 29 (.slice (some ⟨b,off,none⟩) n cap) rs)
  (hF:∀ i (h:i<rs.length) (h':i<m.length),gX w 59 rs[i] m[i]) (hM:aN w (.slice (some ⟨b,off,none⟩) n cap) m) (hn:rs.length=n) (h1:1≤n) (h4:n≤4) (hk:jQ m=true) (hl:jZ w 69 (.slice p Bh c) l) (hla:l.length=Bh) (hc0:w.cell? ⟨b,off,none⟩=some (.slice a0 Bh cap0)) (lb:b<w.heap.size)
  (hrow:∀ r∈m,r.length=Bh∧Good (gL r l)) (ha1:1≤Bh) (ha4:Bh≤4) (hok:∀ x∈l,gV x.1 x.2=true) (ht:oO.Pow w) (he:whole.Er w) :
  Calls Tryz.prog 41 #[.slice (some ⟨b,off,none⟩) n cap,.slice p Bh c] w (lW w (nM m l)):=by
 have HC:=zh (fun W hW=>dw (.slice (some ⟨b,off,none⟩) n cap) m W (hM.later hW));unfold gZ at HC;rw [hk,if_pos rfl] at HC;obtain ⟨cs,hcs,hmk⟩:=JG n zo;have FV:=zh hcs;have HL:=zh hl;have Xe:=zh hla;have HF:=zh hF;have HR:=zh hR;have HM:=zh hm;have HN:=zh hn;have Kv:=zh hrow;have MC:=zh hok;have HT:=zh ht;have HE:=zh he;have hmf:∀ (fn:Fn) (first cap:Array Value) (w:World),(Instr.makeFunc fn first cap).run Tryz.prog w= .ok (.func fn first cap) w:=fun _ _ _ _=>rfl;clear hcs hl hla hF hR hm hn hrow hok ht he hM hk;refine (callsIn_wide (n:=3)).1 ?_;refine callsIn_of_wp_marks Tryz.func41 rfl trivial ?_ rfl;simp only [Tryz.ntmps41,List.size_toArray,List.length_cons,List.length_nil,Nat.reduceAdd,Nat.reduceSub,Array.replicate_succ,Array.replicate_zero,List.push_toArray,List.append_toArray,List.nil_append,List.cons_append]
 gi_wp2_with (refine ⟨trivial,?_⟩;gi_at_call 23;refine (callsIn_wide.2 (HC.out _ ah)).mono ?_;rintro e w1 ⟨rfl,hc1⟩;have B0:=au.later (au.alloc (au.alloc (au.new _ _ _) _) _) hc1;have cB0:=B0.cell;have jc:=B0.free;have lB0:=B0.lt;have BR:=au.later (au.alloc (au.oN _ _ _ _) _) hc1;have bK:=BR.cell;have bL:=BR.free;have eG:=BR.lt;have BE:=au.later (au.at2 _ _ _ _ _) hc1;have cBE:=BE.cell;have fBE:=BE.free;have lBE:=BE.lt)
 have hB1:Below w.heap.size w w1:=ah;have HBA:=zh (lZ.of (HL.out.later hB1) Xe.out)
 have HOB:Hid (∀ k,k<Bh→gV (l.getD k (0,0)).1 (l.getD k (0,0)).2=true):=zh fun k hk=>by
  have hk':k<l.length:=by rw [Xe.out];exact hk
  have e:l.getD k (0,0)=l[k]:=by simp [hk']
  rw [e];exact MC.out _ (List.getElem_mem _)
 have BR0:=BR;have BE0:=BE;have B00:=B0;have HC0:=zh ((hB1.cell (p:=⟨b,off,none⟩) lb).trans hc0);have lbw:b<w1.heap.size:=Nat.lt_of_lt_of_le lb hB1.size;clear bK bL eG cBE fBE lBE cB0 jc lB0 BR BE B0 hc0
 gi_loopw [22] (fun iv wr=>∃ k:Nat,k≤Bh∧iv= .int .i64 (k:Int)∧Hid (Below w1.heap.size w1 wr)) (fun iv _=>Bh - (intOf iv).toNat)
 case atStart=>exact ⟨0,by omega,rfl,zh (Below.refl _ _)⟩
 case round =>
  obtain ⟨k,hk,rfl,HB⟩:=hrel
  rcases Nat.lt_or_ge k Bh with hlt|hge
  ·obtain ⟨b',off',hp,lb',Pm,Pk⟩:=HBA.out.later HB.out k hlt;subst hp;have HV:=zh (fun W=>dJ.dw (l.getD k (0,0)).1 (l.getD k (0,0)).2 W);rw [HOB.out k hlt,if_pos rfl] at HV;generalize (l.getD k (0,0)).1=y1 at *;generalize (l.getD k (0,0)).2=y2 at *;have lbB:w1.heap.size≤wr.heap.size:=HB.out.size
   gi_wp2_with (refine ⟨trivial,?_⟩;gi_at_call 83;refine (callsIn_wide.2 (HV.out _)).mono ?_;rintro e w2 ⟨rfl,hc2⟩)
   have hB2:Below w1.heap.size w1 w2:=Bt (aJ HB.out _) hc2;go_roundw
   case rel=>exact ⟨k+1,by omega,by go_num,zh hB2⟩
   case measure=>exact zM
  ·obtain rfl:k=Bh:=by omega
   have YC:=BR0.later HB.out;have BE1:=BE0.later HB.out;have BB1:=B00.later HB.out;have cB0:=BB1.cell;have lB0:=BB1.lt;have cc:=(HB.out.cell (p:=⟨b,off,none⟩) lbw).trans HC0.out;have lbB:w1.heap.size≤wr.heap.size:=HB.out.size;have lb2:b<wr.heap.size:=by omega
   have hn0:0<n:=by omega
   gi_wp2
   gi_region
   have HB2:Hid (Below w1.heap.size w1 wr.drew):=zh (Below.drew HB.out);have BB2:=BB1.drew;have Pb:=YC.drew;have MO:=BE1.drew;obtain ⟨wq,Ewq⟩:∃ y,wr.drew=y:=⟨_,rfl⟩;rw [Ewq] at HB2 BB2 Pb MO ⊢;clear Ewq cc cB0 lB0 lbB lb2 YC BE1 BB1;have cB0:=BB2.cell;have lB0:=BB2.lt
   gi_wp2_with (refine ⟨trivial,?_⟩;gi_at_call 58;refine (ug Fence.wide 2 trivial rfl _ _ _ _).mono ?_;rintro e w' ⟨rfl,rfl⟩)
   obtain ⟨W0,hW0⟩:∃ W0,(((wq.alloc (.cells cs 69)).alloc (.cells #[.slice (some ⟨wq.heap.size,0,none⟩) n n] 63)).alloc (.cells #[.slice (some ⟨b,off,none⟩) n cap] 23))=W0:=⟨_,rfl⟩;have hBq:Below wq.heap.size wq W0:=by rw [← hW0];exact ah
   have hB0:Below w.heap.size w W0:=Bt hB1 (Bt HB2.out hBq);have hx0:au W0 wq.heap.size cs 69:=by rw [← hW0];exact aT
   have hx1:au W0 (wq.heap.size+1) #[.slice (some ⟨wq.heap.size,0,none⟩) n n] 63:=by rw [← hW0];exact aT
   have hx2:au W0 (wq.heap.size+1+1) #[.slice (some ⟨b,off,none⟩) n cap] 23:=by rw [← hW0];exact aT
   have hxL:=BB2.later hBq;have hxR:=Pb.later hBq;have hxE:=MO.later hBq;have hqw:w.heap.size+1+1<wq.heap.size:=MO.lt;rw [hW0];clear hW0 cB0 lB0 BB2 Pb MO;obtain ⟨F,EF⟩:∃ F:Nat→Int × Int,Hid ((fun i=>((m.map fun r=>(gL r l).1).getD i (0,0)))=F):=⟨_,zh rfl⟩
   refine wpIn_rangeFunc_ownH (α:=Fin rs.length) rfl zo (gf:=115) (lb:=#[.pointer (some ⟨wq.heap.size+1+1,0,none⟩)]) rfl trivial (enters_of Tryz.func115 zk rfl)
    (nK Fence.wide 2 trivial rfl zo (wq.heap.size+1+1) w.heap.size _ rs w _ hx2.lt hB0.size ((hx2.cell 0).trans rfl) HR.out (Nat.le_refl _) hB0) belowK_t (belowK_b hB0.size) (Below.refl _ _) (fun _=>rfl)
    (fun pre W=>(jy W wq.heap.size n (fun i=>∃ x∈pre,x.1=i) F∧Hid (∀ x∈pre,(gL (m.getD x.1 []) l).2=0)∧au W w.heap.size #[.slice p k c] 63∧au W (w.heap.size+1) #[.slice none 0 0] 63∧au W (w.heap.size+1+1) #[.int .i64 0] 33∧au W (wq.heap.size+1) #[.slice (some ⟨wq.heap.size,0,none⟩) n n] 63)∧Below w.heap.size w W)
    (fun c' pre W=>(c'= .ret∧Hid (∃ x:Fin rs.length,(gL (m.getD x.1 []) l).2=6)∧au W (w.heap.size+1) #[.slice none 0 0] 63∧au W (w.heap.size+1+1) #[.int .i64 6] 33)∧Below w.heap.size w W)
    (OwnFrom.and (Own.from (fun s A B row hs hg hr=>⟨hs.1.kept (Keep.others hg hr),hs.2.1,dK hs.2.2.1 hg hr,dK hs.2.2.2.1 hg hr,dK hs.2.2.2.2.1 hg hr,dK hs.2.2.2.2.2 hg hr⟩) _) (ownFrom_below (Nat.le_refl _) hB0.size))
    (fun c'=>OwnFrom.and (Own.from (fun s A B row hs hg hr=>⟨hs.1,hs.2.1,dK hs.2.2.1 hg hr,dK hs.2.2.2 hg hr⟩) _) (ownFrom_below (Nat.le_refl _) hB0.size))
    ⟨⟨?f0,zh zi,hxL,hxR,hxE,hx1⟩,hB0⟩ (fun x a' W=>∃ u44 u45 B,a'={ tmps:=#[.slice (some ⟨b,off,none⟩) n cap,.slice p k c,undef,.pointer (some ⟨w.heap.size,0,none⟩),.pointer (some ⟨w.heap.size+1,0,none⟩),.pointer (some ⟨w.heap.size+1+1,0,none⟩),.int .i64 0,undef,u8,u9,.pointer (some ⟨wq.heap.size+1,0,none⟩),.int .i64 (x.1:Int),.pointer (some ⟨B,0,none⟩),undef,undef,.slice (some ⟨b,off,none⟩) n cap,.int .i64 0,.int .i64 0,.bool false,undef,.slice p k c,.int .i64 (k:Int),.int .i64 (k:Int),.bool false,u24,u25,u26,u27,u28,u29,u30,u31,.slice p k c,.int .i64 (k:Int),.slice (some ⟨b,off,none⟩) n cap,.pointer (some ⟨b,off,none⟩),.slice a0 k cap0,.int .i64 (k:Int),.bool false,.slice (some ⟨b,off,none⟩) n cap,.int .i64 (n:Int),.slice (some ⟨wq.heap.size,0,none⟩) n n,.slice (some ⟨b,off,none⟩) n cap,.func (.func 115) #[] #[.pointer (some ⟨wq.heap.size+1+1,0,none⟩)],u44,u45,undef,undef,undef,undef,undef,undef,undef,undef,undef,undef,undef,undef,undef,undef,undef],defers:=[] }∧au W B #[rs[x.1]] 29) ?hAx ?assign ?body ?done ?stop
   case f0 =>
    obtain ⟨arr,k1,k2,k3⟩:=jy.start (f:=F) hx0 FV.out;exact ⟨arr,k1,k2,fun i hi ⟨x,hx,_⟩=>by cases hx⟩
   case hAx =>
    intro x a'
    exact Own.from (fun s A B row hs hg hr=>by
     obtain ⟨u1,u2,B',h1,h2⟩:=hs;exact ⟨u1,u2,B',h1,dK h2 hg hr⟩) _
   case assign =>
    intro l' pre x W K hI hK;obtain ⟨a',cap',hre, -⟩:=(HF.out x.1 x.2 (by rw [← HM.out];exact x.2)).read;unfold enc;generalize rs[x.1]=rx at *;subst hre
    gi_wp2
    exact hK _ _ ((dQ ah).from _) ((Below.refl _ W).alloc hI.2.size _) ⟨⟨hI.1.1.later ah,hI.1.2.1,hI.1.2.2.1.later ah,hI.1.2.2.2.1.later ah,hI.1.2.2.2.2.1.later ah,hI.1.2.2.2.2.2.later ah⟩,hI.2.alloc hI.2.size _⟩ ⟨_,_,_,rfl,aT⟩
   case body =>
    rintro l' pre x a' W hl hr ⟨⟨hFl,hp,hb0,hbR,VR,hbO⟩,hB⟩ ⟨u1,u2,B',rfl,hbB⟩ hpl;have hxm:x.1<m.length:=HM.out ▸ x.2;have hgd:m.getD x.1 []=m[x.1]:=by simp [hxm]
    have hfr:=HF.out x.1 x.2 hxm;obtain ⟨hml,hgood⟩:=Kv.out m[x.1] (List.getElem_mem _);have hxn:x.1<n:=by rw [← HN.out];exact x.2
    have HFx:Hid (F x.1=(gL m[x.1] l).1):=zh (by rw [← EF.out];simp [hxm]);obtain ⟨a',cap',hre, -⟩:=hfr.read;rw [hml] at hre
    have TS:Hid (∀ W',Below W.heap.size W W'→Calls Tryz.prog 84 #[.int .i64 (k:Int),.func (.func 85) #[] #[.pointer (some ⟨B',0,none⟩),.pointer (some ⟨w.heap.size,0,none⟩)],.func (.func 88) #[] #[]] W' (fun e w'=>e= .returned (dV (gL m[x.1] l))∧Below W'.heap.size W' w')):=zh fun W' hW'=>by
     have h0:=P6 B' w.heap.size (fun i=>pU (m[x.1].getD i Fr.no) (l.getD i (0,0))) k W' zo zo (zh fun i hi w' hb'=>by
      have hx2:=Bt hW' hb';have i1:i<m[x.1].length:=by omega
      have i2:i<l.length:=by rw [Xe.out];exact hi
      have e1:m[x.1].getD i Fr.no=m[x.1][i]:=by simp [i1]
      have e2:l.getD i (0,0)=l[i]:=by simp [i2]
      rw [e1,e2];exact OC B' w.heap.size _ _ m[x.1] l i w' (hfr.later (Bt hB hx2)) (HL.out.later (Bt hB hx2)) (hbB.later hx2) (hb0.later hx2) i1 i2 (HT.out.later (Bt hB hx2)) (HE.out.later (Bt hB hx2)))
     have e:fC (fun i=>pU (m[x.1].getD i Fr.no) (l.getD i (0,0))) (k - 1)=gL m[x.1] l:=by unfold gL;rw [hml]
     rw [e] at h0;exact h0
    have av2:=zh hgd;have HFL:=zh hFl;have Uu:=zh hbB;have aE2:=zh hb0;have av7:=zh hbR;have av8:=zh VR;have aE1:=zh hbO;have cB:=hbB.cell;have lB:=hbB.lt;clear hgd hfr hml hFl hbB hb0 hbR VR hbO;rw [hre] at cB;clear hre
    rcases hgood with ⟨hg0,hgk⟩|hg6
    ·obtain ⟨⟨⟨lo,hi⟩,er⟩,hrow⟩:∃ y,gL m[x.1] l=y:=⟨_,rfl⟩;have HRW:=zh hrow;rw [hrow] at TS HFx hg0;simp only at hg0;subst hg0;clear hgk hrow;unfold dV at TS;simp only at TS HFx
     gi_wp2_with (refine ⟨trivial,?_⟩;gi_at_call 84;refine (CallsIn.inRound l' (callsIn_wide.2 (TS.out _ (Below.refl _ _)))).mono ?_;rintro e w9 ⟨rfl,Oe⟩;have hO:=aE1.out.later Oe;have cO:=hO.cell;have lO:=hO.lt;obtain ⟨⟨y1,BO⟩,⟨y2,Oq⟩,fy,ly⟩:=(HFL.out.later Oe).cells hxn;have lgO:wq.heap.size≠w9.heap.size:=zo)
     have hS:Below w.heap.size W ((w9.setCell ⟨wq.heap.size,x.1*2,none⟩ (.int .i64 lo)).setCell ⟨wq.heap.size,x.1*2+1,none⟩ (.int .i64 hi)):=((Oe.mono hB.size).setCell (by simp;omega) _).setCell (by simp;omega) _;have hk9:KeepsOthers W ((w9.setCell ⟨wq.heap.size,x.1*2,none⟩ (.int .i64 lo)).setCell ⟨wq.heap.size,x.1*2+1,none⟩ (.int .i64 hi)):=((dQ Oe).trans (KeepsOthers.setCell _ _ _)).trans (KeepsOthers.setCell _ _ _);have hal:Below ((w9.setCell ⟨wq.heap.size,x.1*2,none⟩ (.int .i64 lo)).setCell ⟨wq.heap.size,x.1*2+1,none⟩ (.int .i64 hi)).heap.size ((w9.setCell ⟨wq.heap.size,x.1*2,none⟩ (.int .i64 lo)).setCell ⟨wq.heap.size,x.1*2+1,none⟩ (.int .i64 hi)) (((w9.setCell ⟨wq.heap.size,x.1*2,none⟩ (.int .i64 lo)).setCell ⟨wq.heap.size,x.1*2+1,none⟩ (.int .i64 hi)).alloc (.cells #[.int .i64 lo,.int .i64 hi] 69)):=aJ (Below.refl _ _) _
     have hbs:w.heap.size≤((w9.setCell ⟨wq.heap.size,x.1*2,none⟩ (.int .i64 lo)).setCell ⟨wq.heap.size,x.1*2+1,none⟩ (.int .i64 hi)).heap.size:=Nat.le_trans hB.size hS.size;refine ⟨(hk9.trans (dQ hal)).from _,hS.trans (hal.mono hbs),⟨⟨?p1,zh fun y hy=>?p2,?p3,?p4,?p5,?p6⟩,(hB.trans hS).trans (hal.mono hbs)⟩⟩
     case p1 =>
      refine ((HFL.out.later Oe).put hxn (by rw [HFx.out]) (by rw [HFx.out]) ?_).later hal;rintro i ⟨y,hy,rfl⟩
      rcases List.mem_append.1 hy with h|h
      ·exact .inr ⟨y,h,rfl⟩
      ·rw [List.mem_singleton] at h;exact .inl (by rw [h])
     case p2 =>
      rcases List.mem_append.1 hy with h|h
      ·exact hp.out y h
      ·rw [List.mem_singleton] at h;rw [h,av2.out,HRW.out]
     case p3=>exact (((aE2.out.later Oe).setOther _ (by simp;omega)).setOther _ (by simp;omega)).later hal
     case p4=>exact (((av7.out.later Oe).setOther _ (by simp;omega)).setOther _ (by simp;omega)).later hal
     case p5=>exact (((av8.out.later Oe).setOther _ (by simp;omega)).setOther _ (by simp;omega)).later hal
     case p6=>exact ((hO.setOther _ zi).setOther _ zi).later hal
    ·have Mx:=TS;rw [hg6] at Mx;unfold dV at Mx;simp only at Mx
     gi_wp2_with (refine ⟨trivial,?_⟩;gi_at_call 84;refine (CallsIn.inRound l' (callsIn_wide.2 (Mx.out _ (Below.refl _ _)))).mono ?_;rintro e w9 ⟨rfl,Oe⟩;have hR9:=av7.out.later Oe;have cR:=hR9.cell;have fR:=hR9.free;have lR:=hR9.lt;have hE9:=av8.out.later Oe;have cE:=hE9.cell;have fE:=hE9.free;have lE:=hE9.lt)
     have hS:Below w.heap.size W ((w9.setCell ⟨w.heap.size+1,0,none⟩ (.slice none 0 0)).setCell ⟨w.heap.size+1+1,0,none⟩ (.int .i64 6)):=((Oe.mono hB.size).setCell zi _).setCell (by simp;omega) _;have hk9:KeepsOthers W ((w9.setCell ⟨w.heap.size+1,0,none⟩ (.slice none 0 0)).setCell ⟨w.heap.size+1+1,0,none⟩ (.int .i64 6)):=((dQ Oe).trans (KeepsOthers.setCell _ _ _)).trans (KeepsOthers.setCell _ _ _);have hal:Below ((w9.setCell ⟨w.heap.size+1,0,none⟩ (.slice none 0 0)).setCell ⟨w.heap.size+1+1,0,none⟩ (.int .i64 6)).heap.size ((w9.setCell ⟨w.heap.size+1,0,none⟩ (.slice none 0 0)).setCell ⟨w.heap.size+1+1,0,none⟩ (.int .i64 6)) (((w9.setCell ⟨w.heap.size+1,0,none⟩ (.slice none 0 0)).setCell ⟨w.heap.size+1+1,0,none⟩ (.int .i64 6)).alloc (.cells #[.int .i64 0,.int .i64 0] 69)):=aJ (Below.refl _ _) _
     have hbs:w.heap.size≤((w9.setCell ⟨w.heap.size+1,0,none⟩ (.slice none 0 0)).setCell ⟨w.heap.size+1+1,0,none⟩ (.int .i64 6)).heap.size:=Nat.le_trans hB.size hS.size;refine ⟨(hk9.trans (dQ hal)).from _,⟨⟨rfl,zh ⟨x,?p2⟩,?p4,?p5⟩,(hB.trans hS).trans (hal.mono hbs)⟩⟩
     case p2=>rw [av2.out,hg6]
     case p4=>exact ((hR9.set 0 _).setOther _ zi).later hal
     case p5=>exact ((hE9.setOther _ zi).set 0 _).later hal
   case done =>
    rintro D ys W hD rfl ⟨⟨hFl,hp,hb0,hbR,VR,hbO⟩,hB⟩ hK
    have hall:∀ r∈m,(gL r l).2=0:=fun r hr=>by
     obtain ⟨i,hi,rfl⟩:=List.getElem_of_mem hr;have h2:i<rs.length:=by rw [HM.out];exact hi
     have:=hp.out ⟨i,h2⟩ (by unfold upto;rw [List.mem_ofFn];exact ⟨⟨i,h2⟩,rfl⟩)
     simpa [hi] using this
    have HRE:=zh (Gq hall);have HFL:=zh hFl;have cO:=hbO.cell;have lO:=hbO.lt;have cR:=hbR.cell;have fR:=hbR.free;have lR:=hbR.lt;have cE:=VR.cell;have fE:=VR.free;have lE:=VR.lt;clear hall hFl
    gi_wp2
    have hK':=((KeepsOthers.setCell W ⟨w.heap.size+1,0,none⟩ (.slice (some ⟨wq.heap.size,0,none⟩) n n)).trans (KeepsOthers.setCell _ ⟨w.heap.size+1+1,0,none⟩ (.int .i64 0))).same D _ hK rfl;refine ⟨by simp,.inl ⟨_,_,rfl,run_takeDeferred hK',?_⟩⟩;have hg:=grownBy_putObj' ((W.setCell ⟨w.heap.size+1,0,none⟩ (.slice (some ⟨wq.heap.size,0,none⟩) n n)).setCell ⟨w.heap.size+1+1,0,none⟩ (.int .i64 0)) D (.deferred none);have hr9:=dK ((hbR.set 0 (.slice (some ⟨wq.heap.size,0,none⟩) n n)).setOther (a:=⟨w.heap.size+1+1,0,none⟩) (.int .i64 0) zi) hg (fun r e=>by cases e;exact ⟨_,hK',rfl⟩);have he9:=dK ((VR.setOther (a:=⟨w.heap.size+1,0,none⟩) (.slice (some ⟨wq.heap.size,0,none⟩) n n) zi).set 0 (.int .i64 0)) hg (fun r e=>by cases e;exact ⟨_,hK',rfl⟩)
    have Ph:jy _ wq.heap.size n (fun i=>∃ x∈upto rs.length (Nat.le_refl _),x.1=i) F:=((HFL.out.other (a:=⟨w.heap.size+1,0,none⟩) (.slice (some ⟨wq.heap.size,0,none⟩) n n) (by simp;omega)).other (a:=⟨w.heap.size+1+1,0,none⟩) (.int .i64 0) (by simp;omega)).kept (Keep.others hg (fun r e=>by cases e;exact ⟨_,hK',rfl⟩));have c1:=hr9.cell 0;have c2:=he9.cell 0;refine ⟨.tuple #[.slice (some ⟨wq.heap.size,0,none⟩) n n,.int .i64 0],?_,?_⟩
    ·simp at c1 c2
     simp [results,Tryz.f41,go_sem,c1,c2]
    ·rw [HRE.out];refine ⟨_,rfl,((hB.setCell (p:=⟨w.heap.size+1,0,none⟩) zi _).setCell (p:=⟨w.heap.size+1+1,0,none⟩) (by simp;omega) _).trans (belowK_b (w:=w) (Nat.le_refl _) _ D _ _ (by have:=hB0.size;simp at hD ⊢;omega) hK' rfl rfl),?_⟩;rw [← EF.out] at Ph;exact Ph.bds (fun i hi=>⟨⟨i,by rw [HN.out];exact hi⟩,by unfold upto;rw [List.mem_ofFn];exact ⟨⟨i,by rw [HN.out];exact hi⟩,rfl⟩,rfl⟩) (by rw [List.length_map,← HM.out,HN.out]) zo
   case stop =>
    rintro D c' pre W hD hpre ⟨⟨rfl,hin,hbR,VR⟩,hB⟩ hK
    have HRE:Hid (nM m l=([],6)):=zh (by
     obtain ⟨x,hx⟩:=hin.out;have hxm:x.1<m.length:=HM.out ▸ x.2;have hgd:m.getD x.1 []=m[x.1]:=by simp [hxm]
     rw [hgd] at hx;exact Nh (fun r hr=>(Kv.out r hr).2) ⟨_,List.getElem_mem _,hx⟩)
    gi_wp2
    refine ⟨by simp,.inl ⟨_,_,rfl,run_takeDeferred hK,?_⟩⟩;have hg:=grownBy_putObj' W D (.deferred none);have hr9:=dK hbR hg (fun r e=>by cases e;exact ⟨_,hK,rfl⟩);have he9:=dK VR hg (fun r e=>by cases e;exact ⟨_,hK,rfl⟩);have c1:=hr9.cell 0;have c2:=he9.cell 0;refine ⟨.tuple #[.slice none 0 0,.int .i64 6],?_,?_⟩
    ·simp at c1 c2
     simp [results,Tryz.f41,go_sem,c1,c2]
    ·rw [HRE.out];exact ⟨_,rfl,hB.trans (belowK_b (w:=w) (Nat.le_refl _) W D _ _ (by have:=hB0.size;omega) hK rfl rfl),none,0,rfl,Nat.le_refl _,by omega,fun _ h=>by cases h⟩
end Go.Proofs.matrix
namespace Go.Proofs.matrix
open Go Go.RowKit Go.SW Go.Num Go.Mem Go.Proofs Go.Dec Go.cK dJ
theorem IV (v vl:Value) (m:List (List Fr)) (l:List (Int × Int)) (w:World) (hM:aN w v m) (hl:jZ w 69 vl l) (hn:l.length≤1000000) (ht:oO.Pow w) (he:whole.Er w) :
  Calls Tryz.prog 41 #[v,vl] w (lW w (jV m l)):=by
 unfold jV;obtain ⟨p,c,rfl, -, -, -⟩:=hl.read;cases hk:jQ m with
 | false =>
  rw [if_neg zi];obtain ⟨a,cap,rfl⟩:=aN.sl hM;exact Iu a m.length cap (.slice a m.length cap) m w hM hk p l.length c
 | true =>
  rw [if_pos rfl];obtain ⟨k1,k4,k5,k6,k7⟩:=iU hk;obtain ⟨b,off,cap,a0,cap0,rfl,lb,hc0⟩:=aN.top hM zo;cases ha:l.all (fun x=>gV x.1 x.2) with
  | false =>
   rw [if_neg zi];refine AP b off cap (m.headD []).length a0 cap0 m.length l.length m (fun i=>l.getD i (0,0)) 30 p c w hM hk (lZ.of hl rfl) hc0 lb zo (.inl ⟨?_,rfl⟩) hn;rw [← Bool.not_eq_true,List.all_eq_true] at ha
   have:∃ x∈l,gV x.1 x.2=false:=by
    apply Classical.byContradiction
    intro hne
    exact ha fun x hx=>by
     cases hb:gV x.1 x.2 with
     | true=>rfl
     | false=>exact absurd ⟨x,hx,hb⟩ hne
   obtain ⟨x,hx,hb⟩:=this;obtain ⟨i,hi,rfl⟩:=List.getElem_of_mem hx;exact ⟨i,hi,by simpa [hi] using hb⟩
  | true =>
   rw [if_pos rfl];rw [List.all_eq_true] at ha
   by_cases hlen:l.length=(m.headD []).length
   ·rw [if_pos hlen];obtain ⟨rs,hR,hm,hF⟩:=id hM;rw [← hlen] at hc0;refine tL b off cap l.length a0 cap0 m.length m l p c w rs hm hR hF hM hm k1 k4 hk hl rfl hc0 lb (fun r hr=>?_) zo zo (fun x hx=>ha x hx) ht he;have h1:=k7 r hr;refine ⟨h1.1.trans hlen.symm,Qg (fun a hr'=>?_) (fun x hx=>ha x hx) zo zo⟩;have h2:=h1.2;unfold gN at h2;split at h2
    ·rename_i h3;exact List.all_eq_true.1 h3 a hr'
    ·cases h2
   ·rw [if_neg hlen]
    exact AP b off cap (m.headD []).length a0 cap0 m.length l.length m (fun i=>l.getD i (0,0)) 2 p c w hM hk (lZ.of hl rfl) hc0 lb zo (.inr ⟨fun i hi=>by
     have:=ha l[i] (List.getElem_mem _)
     simpa [hi] using this,hlen,rfl⟩) hn
theorem Tw {m:List (List Fr)} {l:List (Int × Int)} {r:List (Int × Int) × Int} (h:jV m l=r) (hn:l.length≤1000000):∀ x y W,aN W x m→jZ W 69 y l→oO.Pow W→whole.Er W→Calls Tryz.prog 41 #[x,y] W (fun e w'=>∃ v,e= .returned (.tuple #[v,.int .i64 r.2])∧Below W.heap.size W w'∧jZ w' 69 v r.1):=fun x y W h1 h2 h3 h4 =>
 h ▸ IV x y m l W h1 h2 hn h3 h4
theorem aa5 {A:List (List Fr)} {x y:ByteArray} {k:Int} (h:aa6 A=(⟨x,y⟩,k)):∀ v W,aN W v A→oO.Pow W→Calls Tryz.prog 35 #[v] W (fun e w'=>e= .returned (.tuple #[.agg #[.string x,.string y],.int .i64 k])∧Below W.heap.size W w'):=fun v W h1 h2=>by
 have:=ac7 v A W h1 h2;rw [h] at this;exact this
end Go.Proofs.matrix
namespace Go.Proofs.matrix
open Go Go.RowKit Go.SW Go.Num Go.Mem Go.Proofs Go.Dec Go.cK
end Go.Proofs.matrix
