/- Lemmas for the proof. No condition. -/
import Derived.Test.YtfhappbmgghgdaaGreatDoorWB01
import Derived.Test.YtfhappbmgghgdaaGreatDoorWB04
import Derived.Test.YtfhappbmgghgdaaGreatDoorWB07
import Derived.Test.YtfhappbmgghgdaaGreatDoorWB12
import Derived.Test.YtfhappbmgghgdaaGreatDoorWB15
import Derived.Test.YtfhappbmgghgdaaGreatDoorWB17
import Derived.Test.YtfhappbmgghgdaaGreatDoorWB18
import Derived.ChangeSame
import Derived.ChangeVars
import Derived.ChangeArms
import Derived.ChangeMaps5
import Derived.Carry
set_option linter.unusedVariables false
set_option linter.unusedSimpArgs false
set_option maxRecDepth 100000
set_option maxHeartbeats 16000000
namespace Go.Proofs.verdigrislaw05
open Go Go.RowKit Go.SW Go.Num Go.Mem Go.Proofs Go.Dec Go.cK Go.Proofs.matrix Go.Proofs.aF
def ac9 (W:World) (n:Nat) (k:Int) (R:List (Int × Int)) (e:Ending) (w':World):Prop:=∃ a c,e= .returned (.tuple #[.slice a n c,.int .i64 k])∧Below W.heap.size W w'∧jZ w' 69 (.slice a n c) R
theorem Mk {W w':World} {rr:List (Int × Int) × Int} {k:Int} {R:List (Int × Int)} {n:Nat} {e:Ending} (h:lW W rr e w') (hr:rr=(R,k)) (hn:R.length=n):ac9 W n k R e w':=by
 subst hr hn;obtain ⟨vv,rfl,h1,h2⟩:=h;obtain ⟨aa,cc,rfl, -⟩:=id h2;exact ⟨aa,cc,rfl,h1,h2⟩
theorem Lx (m:Nat):∃ q:Nat,q=max 1 m∧∀ (ts:Array TypeId) (t:TypeId) (W:World),(Builtin.max_ ts t #[.int .i64 1,.int .i64 (m:Int)]).run Tryz.prog W= .ok (.int .i64 (q:Int)) W:=by
 refine ⟨max 1 m,rfl,fun ts t W=>?_⟩;rw [run_max_int2]
 rcases Nat.lt_or_ge 1 m with h|h
 ·have h1:(m:Int)>1:=by omega
  have h2:¬ (m:Int)<1:=by omega
  rw [Nat.max_eq_right zo];simp [h1,h2]
 ·have h1:¬ (m:Int)>1:=by omega
  rw [Nat.max_eq_left zo]
  by_cases h2:(m:Int)<1
  ·simp [h1,h2]
  ·have:m=1:=by omega
   subst this;simp
theorem tL (r c r1 c1:Int) (A B v v1:Value) (a1 a2:Option Addr) (n1 n2 k1 k2:Nat) (m1 m2 q1 q2:Nat) (d1 d2 d3 d4:Nat) (M1 M2 M3 M4:List (List Fr)) (R1:List (Int × Int)) (D1:List (Int × Int)) (w:World) (ht:oO.Pow w) (he:whole.Er w) (hA:∃ a n c,A= .slice a n c) (hB:∃ a n c,B= .slice a n c) (hv:jk w v) (hv1:jk w v1)
  (hm1:m1≤5) (hm2:m2≤5) (aK5:m2≤n2) (hn2:n2≤9223372036854775807)
  (RF:∀ (ts:Array TypeId) (t:TypeId) (W:World),(Builtin.min_ ts t #[.int .i64 (n1:Int),.int .i64 5]).run Tryz.prog W= .ok (.int .i64 (m1:Int)) W)
  (RD:∀ (ts:Array TypeId) (t:TypeId) (W:World),(Builtin.min_ ts t #[.int .i64 (n2:Int),.int .i64 5]).run Tryz.prog W= .ok (.int .i64 (m2:Int)) W)
  (hmin3:∃ x:Nat,(∀ (ts:Array TypeId) (t:TypeId) (W:World),(Builtin.min_ ts t #[.int .i64 (n2:Int),.int .i64 4]).run Tryz.prog W= .ok (.int .i64 (x:Int)) W)∧∀ (ts:Array TypeId) (t:TypeId) (W:World),(Builtin.max_ ts t #[.int .i64 1,.int .i64 (x:Int)]).run Tryz.prog W= .ok (.int .i64 (q2:Int)) W)
  (LM:∃ x:Nat,(∀ (ts:Array TypeId) (t:TypeId) (W:World),(Builtin.min_ ts t #[.int .i64 (m1:Int),.int .i64 4]).run Tryz.prog W= .ok (.int .i64 (x:Int)) W)∧∀ (ts:Array TypeId) (t:TypeId) (W:World),(Builtin.max_ ts t #[.int .i64 1,.int .i64 (x:Int)]).run Tryz.prog W= .ok (.int .i64 (q1:Int)) W)
  (hsl1:∀ W,(Instr.sliceAt 63 (.slice a1 n1 k1) none (some (.int .i64 (m1:Int))) none).run Tryz.prog W= .ok (.slice a1 m1 k1) W)
  (hsl2:∀ W,(Instr.sliceAt 64 (.slice a2 n2 k2) none (some (.int .i64 (m2:Int))) none).run Tryz.prog W= .ok (.slice a2 m2 k2) W)
  (HR:Hid (jZ w 69 (.slice a1 m1 k1) R1)) (HD:Hid (Xm w (.slice a2 m2 k2) D1)) (HL:Hid (R1.length=m1∧D1.length=m2))
  (l1:qY M1∧M1.length=d1) (l2:qY M2∧M2.length=d2) (l3:qY M3∧M3.length=d3) (l4:qY M4∧M4.length=d4)
  (HO:Hid (Xl w 26 #[A] d1 M1)) (H1:Hid (Xl w 32 #[.agg #[.int .u8 r,.int .u8 c,v]] d2 M2))
  (H3:Hid (Xl w 34 #[.agg #[.int .u8 r,.int .u8 c,v],.int .i64 3,.int .i64 (q2:Int)] d3 M3)) (H4:Hid (Xl w 34 #[.agg #[.int .u8 r1,.int .u8 c1,v1],.int .i64 2,.int .i64 (q1:Int)] d4 M4)) :
  Calls Tryz.prog 6 #[.agg #[A,B,.int .u8 r,.int .u8 c,v,.int .u8 r1,.int .u8 c1,v1],.slice a1 n1 k1,.slice a2 n2 k2] w (fun e w'=>e= .returned (.bool true)∧Below w.heap.size w w'):=by
 have HP:=zh ht;have HE:=zh he;have HW:=zh (fun W (h1:oO.Pow W) (h2:whole.Er W)=>PD W h1 h2);obtain ⟨aA,nA,cA,rfl⟩:=hA;obtain ⟨aB,nB,cB,rfl⟩:=hB;obtain ⟨a0,nd,cap,rfl, -, -⟩:=hv;obtain ⟨a3,nd1,ab2,rfl, -, -⟩:=hv1;obtain ⟨x3,hmin3,XM⟩:=hmin3;obtain ⟨x4,LM,XL⟩:=LM;have L1:=zh l1;have L2:=zh l2;have L3:=zh l3;have L4:=zh l4;have HM:=zh (And.intro hm1 hm2);clear ht he l1 l2 l3 l4 hm1 hm2;go_enter Tryz.func6,Tryz.ntmps6
 go_wp2_with fail
 obtain ⟨u0,EW,hz,HX⟩:=oz w #[.slice aA nA cA,.slice aB nB cB,.int .u8 r,.int .u8 c,.slice a0 nd cap,.int .u8 r1,.int .u8 c1,.slice a3 nd1 ab2] 28;rw [EW];have HB:=zh hz;clear EW hz;refine (HW.out _ (HP.out.later HB.out) (HE.out.later HB.out)).mono ?_;rintro e u1 ⟨rfl,h⟩;replace HX:=zh (HX.out.later h);replace HB:=zh (Bt HB.out h);clear h;obtain ⟨wz,EZ⟩:∃ y,y=u1:=⟨_,rfl⟩;have HBW:=HB;replace HP:=zh (HP.out.later HB.out);replace HE:=zh (HE.out.later HB.out);replace HR:=zh (HR.out.later HB.out);replace HD:=zh (HD.out.later HB.out);clear HW HB;rw [← EZ] at HP HE HR HD HX HBW ⊢;clear EZ;have Bj:Hid (Below wz.heap.size wz wz):=zh (Below.refl _ _);go_wp2_with fail
 clear RF RD hsl1 hsl2

 go_loopw [7,8,32] (fun wv sv iv wr=>∃ (k:Nat) (L5 L6:List (Int × Int)),k≤m2∧iv= .int .i64 (k:Int)∧Hid (L5.length=k∧L6.length=k)∧Hid (Go.cK.Own wr wz.heap.size 69 wv L5)∧Hid (Go.cK.Own wr wz.heap.size 69 sv L6)∧Hid (∀ r,wv.ownBlock=some r→sv.ownBlock≠some r)∧Hid (Below wz.heap.size wz wr)) (fun _ _ iv _=>m2 - (intOf iv).toNat)
 case atStart=>exact ⟨0,[],[],by omega,rfl,zh ⟨rfl,rfl⟩,zh (Own.nil _ _ _),zh (Own.nil _ _ _),zh (fun r h=>by cases h),Bj⟩
 case round =>
  clear Bj;obtain ⟨k,L5,L6,hk,rfl,HK,O5,O6,HN,HB⟩:=hrel
  rcases Nat.lt_or_ge k m2 with hlt|hge
  ·obtain ⟨b,off,e1,e2,rfl,hb0,hx1,hx2,hw0,hw1⟩:=aa3 HD.out HL.out.2 k hlt;have x1:=(HB.out.cell (p:=⟨b,off+k*2,none⟩) hb0).trans hx1;have x2:=(HB.out.cell (p:=⟨b,off+k*2+1,none⟩) hb0).trans hx2;clear hx1 hx2;have hkk:(k:Int)<(m2:Int):=by omega
   have HW1:Hid (wrap64 ((k:Int)+1)=((k+1:Nat):Int)):=zh (by have:=HM.out;unfold wrap64;omega);have H12:=zh (fun W=>Xn e1 e2 hw0 hw1 W);have H13:=zh (fun W=>vF e1 e2 hw0 hw1 W);clear hw0 hw1;go_wp2_with fail
   obtain ⟨wy,EW,hz,X8⟩:=oz wr #[.int .i64 e1,.int .u32 e2] 67;rw [EW];clear EW x1 x2 hkk;obtain ⟨g,eg⟩:∃ g,wr.heap.size=g:=⟨_,rfl⟩;have HG:Hid (∀ r,u7.ownBlock=some r→r≠g):=zh fun r h=>by have:=(O5.out.lt r h).2;omega
   replace O5:=zh (O5.out.later hz);replace O6:=zh (O6.out.later hz);replace HB:=zh (Bt HB.out hz);rw [eg] at X8 ⊢;clear eg hz;obtain ⟨c8,l8⟩:=X8.cl;refine Qi zk (Lf 6 4 zd (uy ([(.pure,0),(.read,1),(.pure,5),(.read,6),(.ext,2),(.ext,3),(.fin,4),(.fin,7),(.fin,8),(.fin,9),(.fin,10),(.fin,11)]) zk zR zP (oD _ _ _ _ _ _ _ (Wk.out ?o1))) (uy ([(.pure,0),(.read,1),(.pure,5),(.ext,2),(.ext,3),(.fin,4),(.fin,6),(.fin,7),(.fin,8),(.fin,9),(.fin,10),(.fin,11)]) zk zR zP (oD _ _ _ _ _ _ _ (Wk.out ?o2))))
   case o1 =>
    (iterate 4 refine zU ?_)
    refine bW rfl rfl (fun wa hba J hJ=>?_);go_simp;refine (H12.out wa).mono ?_;rintro e wb ⟨⟨lo,hi,rfl, -⟩,hbb⟩;refine hJ _ _ hbb ?_;clear hJ J;refine bW rfl rfl (fun wc hbc J hJ=>?_);go_simp;refine hJ _ _ ah ?_;clear hJ J;have hbx:=au.new wc #[.int .i64 lo,.int .i64 hi] 69;have z1:Below wy.heap.size wy (wc.alloc (.cells #[.int .i64 lo,.int .i64 hi] 69)):=ah;refine mJ [_,_,_,_,_,_] rfl (fun wf hbf=>?_);simp only [List.getElem_toArray,List.getElem_cons_succ,List.getElem_cons_zero];have z2:=Bt z1 hbf;replace hbx:=hbx.later hbf;replace O5:=zh (O5.out.later z2);replace O6:=zh (O6.out.later z2);replace X8:=X8.bl z2;replace HB:=zh (Bt HB.out z2);clear z1 z2 hba hbb hbc hbf;refine ko rfl (.tmp 36) (.tmp 39) rfl rfl O5.out rfl (jZ.one hbx) (by have:=HK.out;have:=HM.out;simp;omega) HB.out.size ?_;intro v5 wg g1 g2 g3;have HN5:=HN
    replace HN:Hid (∀ r,v5.ownBlock=some r→u8.ownBlock≠some r):=zh fun r h e=>by
     rcases g3 with q|q
     ·rw [q] at h;exact HN.out r h e
     ·rw [q] at h;cases h
      exact Nat.lt_irrefl _ (O6.out.lt _ e).2
    replace O6:=zh (O6.out.kept g2 (fun r h e=>HN5.out r e h));replace HB:=zh (HB.out.grown g2 HB.out.size fun r h=>(O5.out.lt r h).1);replace X8:=zh (au.grown X8.out g2 (fun e=>HG.out g e rfl));replace O5:=zh g1;clear g1 g2 g3 hbx;obtain ⟨c8,l8⟩:=X8.cl;go_wp2_with fail
    refine (H13.out _).mono ?_;rintro e wh ⟨⟨lo2,hi2,rfl, -⟩,tZ⟩;replace O5:=zh (O5.out.later tZ);replace O6:=zh (O6.out.later tZ);replace HB:=zh (Bt HB.out tZ);clear tZ c8 l8;go_wp2_with (at_builtin;refine ko rfl (.tmp 41) (.tmp 44) rfl rfl (O6.out.later ah) rfl (jZ.one (au.new _ _ _)) ?q1 ?q2 ?_)
    case q1=>have:=HK.out;have:=HM.out;simp;omega
    case q2=>have:=HB.out.size;simp;omega
    intro v6 wi f1 f2 f3;have hal:Below wh.heap.size wh (wh.alloc (.cells #[.int .i64 lo2,.int .i64 hi2] 69)):=ah;replace O5:=zh (O5.out.later hal);replace O6:=zh (O6.out.later hal);replace HB:=zh (Bt HB.out hal);clear hal;have HN6:=HN
    replace HN:Hid (∀ r,v5.ownBlock=some r→v6.ownBlock≠some r):=zh fun r h e=>by
     rcases f3 with q|q
     ·rw [q] at e;exact HN.out r h e
     ·rw [q] at e;cases e
      exact absurd (O5.out.lt _ h).2 zi
    replace O5:=zh (O5.out.kept f2 (fun r h e=>HN6.out r h e));replace HB:=zh (HB.out.grown f2 HB.out.size fun r h=>(O6.out.lt r h).1);replace O6:=zh f1;clear f1 f2 f3;have HL5:Hid ((L5++[(lo,hi)]).length=k+1∧(L6++[(lo2,hi2)]).length=k+1):=zh (by have:=HK.out;simp;omega);go_wp2_with fail
    go_roundw
    case rel=>exact ⟨k+1,_,_,by omega,by go_num,HL5,O5,O6,HN,HB⟩
    case measure=>simp [intOf]<;>omega
   case o2 =>
    (iterate 3 refine zU ?_)
    refine bW rfl rfl (fun wa hba J hJ=>?_);go_simp;refine (H12.out wa).mono ?_;rintro e wb ⟨⟨lo,hi,rfl, -⟩,hbb⟩;refine hJ _ _ hbb ?_;clear hJ J;refine bW rfl rfl (fun wc hbc J hJ=>?_);go_simp;refine hJ _ _ ah ?_;clear hJ J;have hbx:=au.new wc #[.int .i64 lo,.int .i64 hi] 69;have z1:Below wy.heap.size wy (wc.alloc (.cells #[.int .i64 lo,.int .i64 hi] 69)):=ah;refine mJ [_,_,_,_,_,_,_] rfl (fun wf hbf=>?_);simp only [List.getElem_toArray,List.getElem_cons_succ,List.getElem_cons_zero];have z2:=Bt z1 hbf;replace hbx:=hbx.later hbf;replace O5:=zh (O5.out.later z2);replace O6:=zh (O6.out.later z2);replace X8:=X8.bl z2;replace HB:=zh (Bt HB.out z2);clear z1 z2 hba hbb hbc hbf;refine ko rfl (.tmp 36) (.tmp 39) rfl rfl O5.out rfl (jZ.one hbx) (by have:=HK.out;have:=HM.out;simp;omega) HB.out.size ?_;intro v5 wg g1 g2 g3;have HN5:=HN
    replace HN:Hid (∀ r,v5.ownBlock=some r→u8.ownBlock≠some r):=zh fun r h e=>by
     rcases g3 with q|q
     ·rw [q] at h;exact HN.out r h e
     ·rw [q] at h;cases h
      exact Nat.lt_irrefl _ (O6.out.lt _ e).2
    replace O6:=zh (O6.out.kept g2 (fun r h e=>HN5.out r e h));replace HB:=zh (HB.out.grown g2 HB.out.size fun r h=>(O5.out.lt r h).1);replace X8:=zh (au.grown X8.out g2 (fun e=>HG.out g e rfl));replace O5:=zh g1;clear g1 g2 g3 hbx;obtain ⟨c8,l8⟩:=X8.cl;go_wp2_with fail
    refine (H13.out _).mono ?_;rintro e wh ⟨⟨lo2,hi2,rfl, -⟩,tZ⟩;replace O5:=zh (O5.out.later tZ);replace O6:=zh (O6.out.later tZ);replace HB:=zh (Bt HB.out tZ);clear tZ c8 l8;go_wp2_with (at_builtin;refine ko rfl (.tmp 41) (.tmp 44) rfl rfl (O6.out.later ah) rfl (jZ.one (au.new _ _ _)) ?q1 ?q2 ?_)
    case q1=>have:=HK.out;have:=HM.out;simp;omega
    case q2=>have:=HB.out.size;simp;omega
    intro v6 wi f1 f2 f3;have hal:Below wh.heap.size wh (wh.alloc (.cells #[.int .i64 lo2,.int .i64 hi2] 69)):=ah;replace O5:=zh (O5.out.later hal);replace O6:=zh (O6.out.later hal);replace HB:=zh (Bt HB.out hal);clear hal;have HN6:=HN
    replace HN:Hid (∀ r,v5.ownBlock=some r→v6.ownBlock≠some r):=zh fun r h e=>by
     rcases f3 with q|q
     ·rw [q] at e;exact HN.out r h e
     ·rw [q] at e;cases e
      exact absurd (O5.out.lt _ h).2 zi
    replace O5:=zh (O5.out.kept f2 (fun r h e=>HN6.out r h e));replace HB:=zh (HB.out.grown f2 HB.out.size fun r h=>(O6.out.lt r h).1);replace O6:=zh f1;clear f1 f2 f3;have HL5:Hid ((L5++[(lo,hi)]).length=k+1∧(L6++[(lo2,hi2)]).length=k+1):=zh (by have:=HK.out;simp;omega);go_wp2_with fail
    go_roundw
    case rel=>exact ⟨k+1,_,_,by omega,by go_num,HL5,O5,O6,HN,HB⟩
    case measure=>simp [intOf]<;>omega
  ·obtain rfl:k=m2:=by omega
   have S5:=zh O5.out.bds;have S6:=zh O6.out.bds;replace HR:=zh (HR.out.later HB.out);replace HX:=zh (HX.out.later HB.out);obtain ⟨p5,q5,rfl⟩:=O5.out.slice;obtain ⟨p6,q6,rfl⟩:=O6.out.slice;have N5:Hid (L5.length≤1000000∧L6.length≤1000000∧R1.length≤1000000):=zh (by have:=HK.out;have:=HM.out;have:=HL.out;omega);have Xj:=HB;replace HB:Hid (Below w.heap.size w wr):=zh (Bt HBW.out HB.out);replace HP:Hid (oO.Pow wr):=zh (HP.out.later Xj.out);replace HE:Hid (whole.Er wr):=zh (HE.out.later Xj.out);clear Xj O5 O6 HN HD HK HBW HL HM hk hge;obtain ⟨e5,ee5⟩:∃ x,L5.length=x:=⟨_,rfl⟩;obtain ⟨e6,ee6⟩:∃ x,L6.length=x:=⟨_,rfl⟩;rw [ee5] at S5 ⊢;rw [ee6] at S6 ⊢;clear ee5 ee6;have jU:=HX.out.cell;have jM:=HX.out.lt;go_wp2_with fail
   clear jU jM;have iQ:=zh (Below.refl wr.heap.size wr);refine aD [(.pure,0),(.read,1),(.pure,3),(.read,4),(.pure,6),(.read,7),(.pure,8),(.pure,9),(.pure,10),(.pure,11),(.pure,13),(.read,14),(.pure,15),(.pure,16),(.pure,17),(.pure,18),(.pure,21),(.ext,2),(.ext,5),(.ext,12),(.ext,19),(.pure,20)] zk zk zR zP ?_;refine Wk.out ?_;have jU:=HX.out.cell;have jM:=HX.out.lt;refine zS ?_;clear jU jM;refine bW rfl rfl (fun we hbe J hJ=>?_);go_simp;have hx:Below wr.heap.size wr we:=ah;have dW:=zh (Bt HB.out hx);refine (HO.out _ dW.out).mono ?_;rintro e u21 ⟨ja1,jc1,rfl,h,hm⟩;have hy:=Bt hx h;refine hJ _ _ h ?_;clear hJ J hbe hx h dW;replace HX:=zh (HX.out.later hy);replace HR:=zh (HR.out.later hy);replace S5:=zh (S5.out.later hy);replace S6:=zh (S6.out.later hy);replace HP:=zh (HP.out.later hy);replace HE:=zh (HE.out.later hy);replace HB:=zh (Bt HB.out hy)
   replace iQ:=zh (Bt iQ.out hy);clear hy;have F1:=zh hm;clear hm;have jU:=HX.out.cell;have jM:=HX.out.lt;refine zS ?_;clear jU jM;refine bW rfl rfl (fun we hbe J hJ=>?_);go_simp;have hx:Below u21.heap.size u21 we:=ah;have dW:=zh (Bt HB.out hx);refine (H1.out _ dW.out).mono ?_;rintro e u22 ⟨ja2,jc2,rfl,h,hm⟩;have hy:=Bt hx h;refine hJ _ _ h ?_;clear hJ J hbe hx h dW;replace HX:=zh (HX.out.later hy);replace HR:=zh (HR.out.later hy);replace S5:=zh (S5.out.later hy);replace S6:=zh (S6.out.later hy);replace HP:=zh (HP.out.later hy);replace HE:=zh (HE.out.later hy);replace F1:=zh (F1.out.later hy);replace HB:=zh (Bt HB.out hy);replace iQ:=zh (Bt iQ.out hy);clear hy;have F2:=zh hm;clear hm;have jU:=HX.out.cell;have jM:=HX.out.lt;refine zS ?_;clear jU jM;refine bW rfl rfl (fun we hbe J hJ=>?_);go_simp;have hx:Below u22.heap.size u22 we:=ah;have dW:=zh (Bt HB.out hx)
   refine (H3.out _ dW.out).mono ?_;rintro e u23 ⟨ja3,jc3,rfl,h,hm⟩;have hy:=Bt hx h;refine hJ _ _ h ?_;clear hJ J hbe hx h dW;replace HX:=zh (HX.out.later hy);replace HR:=zh (HR.out.later hy);replace S5:=zh (S5.out.later hy);replace S6:=zh (S6.out.later hy);replace HP:=zh (HP.out.later hy);replace HE:=zh (HE.out.later hy);replace F1:=zh (F1.out.later hy);replace F2:=zh (F2.out.later hy);replace HB:=zh (Bt HB.out hy);replace iQ:=zh (Bt iQ.out hy);clear hy;have F3:=zh hm;clear hm;have jU:=HX.out.cell;have jM:=HX.out.lt;refine zS ?_;clear jU jM;refine bW rfl rfl (fun we hbe J hJ=>?_);go_simp;have hx:Below u23.heap.size u23 we:=ah;have dW:=zh (Bt HB.out hx);refine (H4.out _ dW.out).mono ?_;rintro e u24 ⟨ja4,jc4,rfl,h,hm⟩;have hy:=Bt hx h;refine hJ _ _ h ?_;clear hJ J hbe hx h dW;replace HX:=zh (HX.out.later hy);replace HR:=zh (HR.out.later hy)
   replace S5:=zh (S5.out.later hy);replace S6:=zh (S6.out.later hy);replace HP:=zh (HP.out.later hy);replace HE:=zh (HE.out.later hy);replace F1:=zh (F1.out.later hy);replace F2:=zh (F2.out.later hy);replace F3:=zh (F3.out.later hy);replace HB:=zh (Bt HB.out hy);replace iQ:=zh (Bt iQ.out hy);clear hy;have F4:=zh hm;clear hm;have jU:=HX.out.cell;have jM:=HX.out.lt;refine zS ?_;clear jU jM;refine je (fun u25 hbf=>?_);have hy:Below u24.heap.size u24 u25:=ah;replace HX:=zh (HX.out.later hy);replace HR:=zh (HR.out.later hy);replace S5:=zh (S5.out.later hy);replace S6:=zh (S6.out.later hy);replace HP:=zh (HP.out.later hy);replace HE:=zh (HE.out.later hy);replace F1:=zh (F1.out.later hy);replace F2:=zh (F2.out.later hy);replace F3:=zh (F3.out.later hy);replace F4:=zh (F4.out.later hy);replace HB:=zh (Bt HB.out hy);clear hy hbf iQ;obtain ⟨wq,EQ⟩:∃ y,y=u25:=⟨_,rfl⟩
   have HV:Hid (∀ j:Nat,j<4→∃ ax nx cx M,(∀ W,(Instr.index 71 (.agg #[.slice ja1 d1 jc1,.slice ja2 d2 jc2,.slice ja3 d3 jc3,.slice ja4 d4 jc4]) (.int .i64 (j:Int))).run Tryz.prog W= .ok (.slice ax nx cx) W)∧aN wq (.slice ax nx cx) M∧qY M):=zh fun j hj=>by
    rw [EQ];have:j=0∨j=1∨j=2∨j=3:=by omega
    rcases this with rfl|rfl|rfl|rfl
    ·exact ⟨ja1,d1,jc1,M1,fun W=>by kernel_rfl,F1.out,L1.out.1⟩
    ·exact ⟨ja2,d2,jc2,M2,fun W=>by kernel_rfl,F2.out,L2.out.1⟩
    ·exact ⟨ja3,d3,jc3,M3,fun W=>by kernel_rfl,F3.out,L3.out.1⟩
    ·exact ⟨ja4,d4,jc4,M4,fun W=>by kernel_rfl,F4.out,L4.out.1⟩
   have qZ:Hid (∀ j:Nat,j<3→∃ ax nx cx L,(∀ W,(Instr.index 72 (.agg #[.slice a1 m1 k1,.slice p5 e5 q5,.slice p6 e6 q6]) (.int .i64 (j:Int))).run Tryz.prog W= .ok (.slice ax nx cx) W)∧jZ wq 69 (.slice ax nx cx) L∧L.length≤1000000):=zh fun j hj=>by
    rw [EQ];have:j=0∨j=1∨j=2:=by omega
    rcases this with rfl|rfl|rfl
    ·exact ⟨a1,m1,k1,R1,fun W=>by kernel_rfl,HR.out,N5.out.2.2⟩
    ·exact ⟨p5,e5,q5,L5,fun W=>by kernel_rfl,S5.out,N5.out.1⟩
    ·exact ⟨p6,e6,q6,L6,fun W=>by kernel_rfl,S6.out,N5.out.2.1⟩
   have HZ:=HB;clear F1 F2 F3 F4 HB HO H1 H3 H4 HX HR S5 S6 L1 L2 L3 L4 N5;rw [← EQ] at HP HE HZ ⊢;clear EQ;go_wp2_with fail
   go_loopw [68] (fun iv wr=>∃ k:Nat,iv= .int .i64 (k:Int)∧k≤4∧Below wq.heap.size wq wr) (fun iv _=>4 - (intOf iv).toNat)
   case atStart=>exact ⟨0,rfl,by omega,Below.refl _ _⟩
   case round =>
    obtain ⟨k,rfl,hk,hb⟩:=hrel
    rcases Nat.lt_or_ge k 4 with hlt|hge
    ·obtain ⟨ax,nx,cx,M,hix,hM,hLM⟩:=HV.out k hlt;have hkk:(k:Int)<4:=by omega
     have HLF:=zh (GN hLM);have FM:=zh hM;clear hM hLM;go_wp2_with fail
     clear hix hkk;obtain ⟨wk,hwk⟩:∃ y:World,y=wr:=⟨_,rfl⟩;have HBK:=zh hb
     go_loopw [75] (fun iv wr=>∃ j:Nat,iv= .int .i64 (j:Int)∧j≤3∧Below wq.heap.size wq wr) (fun iv _=>3 - (intOf iv).toNat)
     case atStart=>exact ⟨0,rfl,by omega,hb⟩
     case round =>
      obtain ⟨j,rfl,hj,hbi⟩:=hrel
      rcases Nat.lt_or_ge j 3 with hjlt|ao9
      ·obtain ⟨ay,ny,cy,L,hiy,hL,hLn⟩:=qZ.out j hjlt;have FL:=zh (hL.later hbi);have FN:=zh (FM.out.later hbi);obtain ⟨⟨RR,ek⟩,ER⟩:∃ y,jV M L=y:=⟨_,rfl⟩;obtain ⟨nr,EN⟩:∃ y,RR.length=y:=⟨_,rfl⟩;have A1:Hid (∀ v v' W,aN W v M→jZ W 69 v' L→oO.Pow W→whole.Er W→Calls Tryz.prog 41 #[v,v'] W (ac9 W nr ek RR)):=zh fun v v' W h h' hp hq=>(IV v v' M L W h h' hLn hp hq).mono fun _ _ q=>Mk q ER EN;have A2:Hid (∀ v v' W,aN W v M→jZ W 69 v' L→Calls Tryz.prog 42 #[v,v'] W (ac9 W nr ek RR)):=zh fun v v' W h h'=>(aF.O9 v v' M L W h HLF.out h').mono fun _ _ q=>Mk q ER EN;have HB:=zh hbi;have hjj:(j:Int)<3:=by omega
       clear hL hLn hbi ER EN;go_wp2_with fail
       clear hiy hjj;refine (A1.out _ _ _ FN.out FL.out (HP.out.later HB.out) (HE.out.later HB.out)).mono ?_;rintro e u41 ⟨a8,c8,rfl,h,hm⟩;replace FL:=zh (FL.out.later h);replace FN:=zh (FN.out.later h);replace HB:=zh (Bt HB.out h);clear h;have FI:=zh hm;clear hm;go_wp2_with fail
       refine (A2.out _ _ _ FN.out FL.out).mono ?_;rintro e u42 ⟨a9,c9,rfl,h,hm⟩;replace FL:=zh (FL.out.later h);replace FN:=zh (FN.out.later h);replace FI:=zh (FI.out.later h);replace HB:=zh (Bt HB.out h);clear h;have FJ:=zh hm;clear hm;go_wp2_with fail
       refine (aF.EP _ _ RR _ FI.out FJ.out).mono ?_;rintro e u43 ⟨rfl,h⟩;replace FL:=zh (FL.out.later h);replace FN:=zh (FN.out.later h);replace FI:=zh (FI.out.later h);replace FJ:=zh (FJ.out.later h);replace HB:=zh (Bt HB.out h);clear h;go_wp2_with fail
       have hz:=HB.out;go_roundw
       case rel=>exact ⟨j+1,by go_num,by omega,hz⟩
       case measure=>exact zM
      ·obtain rfl:j=3:=by omega
       go_wp2_with fail
       go_roundw
       case rel=>exact ⟨k+1,by go_num,by omega,hbi⟩
       case measure=>exact zM
    ·obtain rfl:k=4:=by omega
     go_wp2_with fail
     go_ret
     exact ⟨rfl,Bt HZ.out hb⟩
theorem bands_ok (r c r1 c1:Int) (A B v v1 vr vd:Value) (mA:List (List Fr)) (l1 l2:List (Int × Int)) (w:World) (hr:0≤r∧r≤255) (hc:0≤c∧c≤255) (ht:oO.Pow w) (he:whole.Er w) (hA:TN w A mA) (hB:∃ a n c,B= .slice a n c) (hv:jk w v) (hv1:jk w v1) (H1:jZ w 69 vr l1) (H2:Go.cK.Xm w vd l2) :
  Calls Tryz.prog 6 #[.agg #[A,B,.int .u8 r,.int .u8 c,v,.int .u8 r1,.int .u8 c1,v1],vr,vd] w (fun e w'=>e= .returned (.bool true)∧Below w.heap.size w w'):=by
 obtain ⟨a1,k1,rfl,g1,g2, -⟩:=id H1;obtain ⟨a2,k2,rfl,g4,g5, -⟩:=id H2;obtain ⟨m1,hm1,RF⟩:=tu l1.length 5 5 rfl;obtain ⟨m2,hm2,RD⟩:=tu l2.length 5 5 rfl;obtain ⟨x3,hx3,hmin3⟩:=tu l2.length 4 4 rfl;obtain ⟨q2,hq2,XM⟩:=Lx x3;obtain ⟨x4,hx4,LM⟩:=tu m1 4 4 rfl;obtain ⟨q1,hq1,XL⟩:=Lx x4;obtain ⟨G,hG⟩:=DrG.of r c hv;obtain ⟨G1,hG1⟩:=DrG.of r1 c1 hv1;obtain ⟨n,hn⟩:∃ n:Nat,1+r%4=(n:Int):=⟨(1+r%4).toNat,by omega⟩;obtain ⟨k,hk⟩:∃ n:Nat,1+c%4=(n:Int):=⟨(1+c%4).toNat,by omega⟩;have n1:n≤4:=by omega
 have kk1:k≤4:=by omega
 have fs:∀ i j,Sm (G (4*i+j)):=fun i j=>hG.1 _;have gs:∀ i j,Sm (G1 (4*i+j)):=fun i j=>hG1.1 _
 exact tL r c r1 c1 A B v v1 a1 a2 l1.length l2.length k1 k2 m1 m2 q1 q2 _ n 3 2 (qA mA) (BF n k fun i j=>G (4*i+j)).fr (BF 3 q2 fun i j=>G (4*i+j)).fr (BF 2 q1 fun i j=>G1 (4*i+j)).fr (l1.take m1) (l2.take m2) w ht he (Zo hA) hB hv hv1
  zo zo zo zo RF RD ⟨x3,hmin3,XM⟩ ⟨x4,LM,XL⟩
  (Go.cK.sliceTo 63 69 Tryz.underlying63 (fun W=>by kernel_rfl) a1 l1.length k1 m1 zo)
  (Go.cK.sliceTo 64 67 Tryz.underlying64 (fun W=>by kernel_rfl) a2 l2.length k2 m2 zo)
  (zh (Go.cK.Tt H1 zo)) (zh (Go.cK.Sw H2 zo)) (zh ⟨by rw [List.length_take];omega,by rw [List.length_take];omega⟩)
  ⟨JA mA,rfl⟩ (wC n1 kk1 fs) (wC zo zo fs) (wC zo zo gs)
  (zh fun W hW=>Zd A mA W (hA.later hW))
  (zh (am9 (G:=G) hr hc hv n k hn hk _ fun W hW=>Dm hG hv n k n1 kk1 W hW))
  (zh fun W hW=>Dm hG hv 3 q2 zo zo W hW)
  (zh fun W hW=>Dm hG1 hv1 2 q1 zo zo W hW)
end Go.Proofs.verdigrislaw05
namespace Go.Proofs.YtfhappbmgghgdaaGreatDoor
open Go Go.ChangeShapes Go.WideShapes Go.RowKit Go.Proofs Go.Proofs.aC Go.Proofs.aF
theorem YP {n:Int} (h:(Lit.int .u16 n).wf=true):0≤n∧n≤65535:=by
 simp [Lit.wf,IntKind.min,IntKind.max,IntKind.signed,IntKind.bits] at h
 omega
section
variable {H:Type} {enc:TypeId × Value→H} {P:Program} {w:World} {base:Nat} {spare:Nat→Bool} {held:Bool}
theorem trod_struct3 {t:TypeId} {f0 f1 f2:Field} {fuel:Nat} {cs:List Value} {x:DataW H × List MemPlace} (ht:P.underlying t=some (.struct #[f0,f1,f2])) (h:DataW.trod enc P w base spare held fuel t cs=some x) :
  ∃ y0 y1 y2 n,cs.length=P.cellsOf t∧DataW.trod enc P w base spare held n f0.type ((cs.drop f0.offset).take (P.cellsOf f0.type))=some y0 ∧
   DataW.trod enc P w base spare held n f1.type ((cs.drop f1.offset).take (P.cellsOf f1.type))=some y1∧DataW.trod enc P w base spare held n f2.type ((cs.drop f2.offset).take (P.cellsOf f2.type))=some y2:=by
 obtain ⟨xs,n,_,rfl,hl,hlen,hf⟩:=DataW.trod_struct ht h
 match xs,hlen with
 | [y0,y1,y2],_=>exact ⟨y0,y1,y2,n,hl,by simpa using hf 0 f0 rfl,by simpa using hf 1 f1 rfl,by simpa using hf 2 f2 rfl⟩
theorem vw {a:Addr} {n:Nat} {cs:List Value} (h:w.cells? base a n=some cs):cs.length=n∧∀ i,i<n→w.cell? (a.add i)=cs[i]? :=by
 unfold World.cells? at h;split at h
 ·exact ⟨by simpa using mapM_some_length h,fun i hi=>mapM_some_get h i i (by simp [hi])⟩
 ·cases h
theorem yx {a:Addr} {v:Value} (h:w.cell? a=some v):a.block<w.heap.size:=by
 unfold World.cell? at h
 rcases Nat.lt_or_ge a.block w.heap.size with h1|h1
 ·exact h1
 ·rw [Array.getElem?_eq_none h1] at h;cases h
end
theorem Jd {H:Type} {enc:TypeId × Value→H} {W:World} {base:Nat} {sp:Nat→Bool} {held:Bool} {fuel:Nat} {cs:List Value} {x:DataW H × List MemPlace} (h:DataW.trod enc Tryz.prog W base sp held fuel 182 cs=some x) :
  ∃ a n cap,cs=[.slice a n cap]∧Words W (.slice a n cap):=by
 have ue:Tryz.prog.underlying 183=some (.int .u16):=Tryz.underlying183;have ce:Tryz.prog.cellsOf 183=1:=by kernel_rfl
 rcases DataW.trod_slice Tryz.underlying182 h with ⟨rfl, -⟩|⟨a,len,cap,elems,rest,n, -, rfl, -, -, h1,h2,h3,h4, -⟩
 ·exact ⟨none,0,0,rfl,none,0,0,fun _=>0,rfl,by omega,fun k hk=>by omega⟩
 ·unfold maxLen at h2
  have hc:∀ k,k<len→∃ u:Int,W.cell? (a.add k)=some (.int .u16 u)∧0≤u∧u≤65535:=fun k hk=>by
   have e:=h4 k hk;rw [List.getElem?_eq_getElem zo,ce,Nat.mul_one,Option.bind_eq_some_iff] at e;obtain ⟨cs',k1,k2⟩:=e;obtain ⟨u,rfl, -, hw⟩:=DataW.trod_int ue k2;obtain ⟨-, k3⟩:=vw k1;have k4:=k3 0 zo;rw [show (a.add k).add 0=a.add k by simp [Addr.add]] at k4;exact ⟨u,k4,YP hw⟩
  refine ⟨some a,len,cap,rfl,some a,len,cap,fun k=>if h:k<len then (hc k h).choose else 0,rfl,by omega,fun k hk=>?_⟩;obtain ⟨u0,z0, -⟩:=hc 0 zo;have hs:a.spot=none:=World.cell?_spot (by simpa [Addr.add] using z0);have hl:=yx z0;have hsp:=(hc k hk).choose_spec;obtain ⟨b,off,sp⟩:=a;simp only at hs;subst hs;have hl':b<W.heap.size:=by rw [Addr.add_lit] at hl;exact hl
  have hx:W.cell? ⟨b,off+k,none⟩=some (.int .u16 (hc k hk).choose):=by rw [← Addr.add_lit];exact hsp.1
  simp only [hk,dif_pos];exact ⟨b,off,rfl,hl',hx,hsp.2⟩
theorem K9 {H:Type} {enc:TypeId × Value→H} {W:World} {base:Nat} {sp:Nat→Bool} {held:Bool} {fuel:Nat} {cs:List Value} {x:DataW H × List MemPlace} (h:DataW.trod enc Tryz.prog W base sp held fuel 185 cs=some x) :
  ∃ f a n cap z,cs=[.bool f,.slice a n cap,.int .u16 z]∧Words W (.slice a n cap):=by
 have u0:Tryz.prog.underlying 4=some .bool:=Tryz.underlying4;have u2:Tryz.prog.underlying 183=some (.int .u16):=Tryz.underlying183;have c0:Tryz.prog.cellsOf 4=1:=by kernel_rfl
 have c1:Tryz.prog.cellsOf 182=1:=by kernel_rfl
 have c2:Tryz.prog.cellsOf 183=1:=by kernel_rfl
 have ct:Tryz.prog.cellsOf 185=3:=by kernel_rfl
 obtain ⟨y0,y1,y2,m,hl,h0,h1,h2⟩:=trod_struct3 Tryz.underlying185 h;rw [ct] at hl;simp only [c0,c1,c2] at h0 h1 h2
 obtain ⟨x0,x1,x2,rfl⟩:∃ x0 x1 x2,cs=[x0,x1,x2]:=by
  match cs,hl with
  | [x0,x1,x2],_=>exact ⟨x0,x1,x2,rfl⟩
 obtain ⟨f,e0, -⟩:=DataW.trod_bool u0 h0;obtain ⟨a,n,cap,e1,hw⟩:=Jd h1;obtain ⟨z,e2, -⟩:=DataW.trod_int u2 h2;replace e0:[x0]=[Value.bool f]:=e0;replace e1:[x1]=[Value.slice a n cap]:=e1;replace e2:[x2]=[Value.int .u16 z]:=e2;simp only [List.cons.injEq,and_true] at e0 e1 e2;subst e0 e1 e2;exact ⟨f,a,n,cap,z,rfl,hw⟩
theorem UO {H:Type} {enc:TypeId × Value→H} {W:World} {base:Nat} {sp:Nat→Bool} {held:Bool} {fuel:Nat} {cs:List Value} {x:DataW H × List MemPlace} (h:DataW.trod enc Tryz.prog W base sp held fuel 187 cs=some x) :
  ∃ f1 a1 n1 c1 z1 f2 a2 n2 c2 z2,cs=[.bool f1,.slice a1 n1 c1,.int .u16 z1,.bool f2,.slice a2 n2 c2,.int .u16 z2]∧Words W (.slice a1 n1 c1)∧Words W (.slice a2 n2 c2):=by
 have c0:Tryz.prog.cellsOf 185=3:=by kernel_rfl
 have ct:Tryz.prog.cellsOf 187=6:=by kernel_rfl
 obtain ⟨y0,y1,m, -, hl,h0,h1⟩:=trod_struct2 Tryz.underlying187 h;rw [ct] at hl;simp only [c0] at h0 h1
 obtain ⟨x0,x1,x2,x3,x4,x5,rfl⟩:∃ x0 x1 x2 x3 x4 x5,cs=[x0,x1,x2,x3,x4,x5]:=by
  match cs,hl with
  | [x0,x1,x2,x3,x4,x5],_=>exact ⟨x0,x1,x2,x3,x4,x5,rfl⟩
 obtain ⟨f1,a1,n1,c1,z1,e1,w1⟩:=K9 h0;obtain ⟨f2,a2,n2,c2,z2,e2,w2⟩:=K9 h1;replace e1:[x0,x1,x2]=[.bool f1,.slice a1 n1 c1,.int .u16 z1]:=e1;replace e2:[x3,x4,x5]=[.bool f2,.slice a2 n2 c2,.int .u16 z2]:=e2;simp only [List.cons.injEq,and_true] at e1 e2;obtain ⟨rfl,rfl,rfl⟩:=e1;obtain ⟨rfl,rfl,rfl⟩:=e2;exact ⟨f1,a1,n1,c1,z1,f2,a2,n2,c2,z2,rfl,w1,w2⟩
theorem UN {H:Type} {enc:TypeId × Value→H} {W:World} {base:Nat} {sp:Nat→Bool} {held:Bool} {fuel:Nat} {cs:List Value} {x:DataW H × List MemPlace} (h:DataW.trod enc Tryz.prog W base sp held fuel 24 cs=some x) :
  ∃ a n cap,cs=[.slice a n cap]∧jk W (.slice a n cap):=by
 have ce:Tryz.prog.cellsOf 187=6:=by kernel_rfl
 rcases DataW.trod_slice Tryz.underlying24 h with ⟨rfl, -⟩|⟨a,len,cap,elems,rest,n, -, rfl, -, -, h1,h2,h3,h4, -⟩
 ·exact ⟨none,0,0,rfl,none,0,0,rfl,by omega,fun k hk=>by omega⟩
 ·unfold maxLen at h2
  have hc:∀ k,k<len→∃ f1 a1 n1 c1 z1 f2 a2 n2 c2 z2,(∀ i,i<6→W.cell? ((a.add (k*6)).add i)=[Value.bool f1,.slice a1 n1 c1,.int .u16 z1,.bool f2,.slice a2 n2 c2,.int .u16 z2][i]?)∧Words W (.slice a1 n1 c1)∧Words W (.slice a2 n2 c2):=fun k hk=>by
   have e:=h4 k hk;rw [List.getElem?_eq_getElem zo,ce,Option.bind_eq_some_iff] at e;obtain ⟨cs',k1,k2⟩:=e;obtain ⟨f1,a1,n1,c1,z1,f2,a2,n2,c2,z2,rfl,w1,w2⟩:=UO k2;exact ⟨f1,a1,n1,c1,z1,f2,a2,n2,c2,z2,(vw k1).2,w1,w2⟩
  refine ⟨some a,len,cap,rfl,some a,len,cap,rfl,by omega,fun k hk=>?_⟩;obtain ⟨_,_,_,_,_,_,_,_,_,_,z0, -⟩:=hc 0 zo;have y0:=z0 0 zo;have hs:a.spot=none:=World.cell?_spot (by simpa [Addr.add] using y0);have hl:=yx y0;obtain ⟨f1,a1,n1,c1,z1,f2,a2,n2,c2,z2,hx,w1,w2⟩:=hc k hk;obtain ⟨b,off,sp⟩:=a;simp only at hs;subst hs;simp only [Addr.add_lit] at hx hl;exact ⟨b,off,f1,a1,n1,c1,z1,f2,a2,n2,c2,z2,rfl,hl,hx 0 zo,hx 1 zo,hx 2 zo,hx 3 zo,hx 4 zo,hx 5 zo,w1,w2⟩
end Go.Proofs.YtfhappbmgghgdaaGreatDoor
namespace Go.Proofs.YtfhappbmgghgdaaGreatDoor
open Go Go.ChangeShapes Go.WideShapes Go.RowKit Go.Proofs Go.Proofs.aC Go.Proofs.aF Go.Proofs.verdigrislaw05 Go.cK
section
variable {H:Type} {enc:TypeId × Value→H} {P:Program} {w:World} {base:Nat} {spare:Nat→Bool} {held:Bool}
theorem trod_struct4 {t:TypeId} {f0 f1 f2 f3:Field} {fuel:Nat} {cs:List Value} {x:DataW H × List MemPlace} (ht:P.underlying t=some (.struct #[f0,f1,f2,f3])) (h:DataW.trod enc P w base spare held fuel t cs=some x) :
  ∃ y0 y1 y2 y3 n,cs.length=P.cellsOf t∧DataW.trod enc P w base spare held n f0.type ((cs.drop f0.offset).take (P.cellsOf f0.type))=some y0 ∧
   DataW.trod enc P w base spare held n f1.type ((cs.drop f1.offset).take (P.cellsOf f1.type))=some y1∧DataW.trod enc P w base spare held n f2.type ((cs.drop f2.offset).take (P.cellsOf f2.type))=some y2∧DataW.trod enc P w base spare held n f3.type ((cs.drop f3.offset).take (P.cellsOf f3.type))=some y3:=by
 obtain ⟨xs,n,_,rfl,hl,hlen,hf⟩:=DataW.trod_struct ht h
 match xs,hlen with
 | [y0,y1,y2,y3],_=>exact ⟨y0,y1,y2,y3,n,hl,by simpa using hf 0 f0 rfl,by simpa using hf 1 f1 rfl,by simpa using hf 2 f2 rfl,by simpa using hf 3 f3 rfl⟩
end
theorem PV {H:Type} {enc:TypeId × Value→H} {W:World} {base:Nat} {sp:Nat→Bool} {held:Bool} {fuel:Nat} {cs:List Value} {x:DataW H × List MemPlace} (h:DataW.trod enc Tryz.prog W base sp held fuel 29 cs=some x) :
  ∃ a n cap l,cs=[.slice a n cap]∧Yl W (.slice a n cap) l:=by
 have us:Tryz.prog.underlying 57=some .string:=Tryz.underlying57;have cs1:Tryz.prog.cellsOf 57=1:=by kernel_rfl
 have ce:Tryz.prog.cellsOf 59=2:=by kernel_rfl
 rcases DataW.trod_slice Tryz.underlying29 h with ⟨rfl, -⟩|⟨a,len,cap,elems,rest,n, -, rfl, -, -, h1,h2,h3,h4, -⟩
 ·exact ⟨none,0,0,[],rfl,none,0,rfl,Nat.le_refl _,by omega,fun k hk=>by cases hk⟩
 ·unfold maxLen at h2
  have hc:∀ i,i<len→∃ p:Fr,W.cell? (a.add (i*2))=some (.string p.n)∧W.cell? ((a.add (i*2)).add 1)=some (.string p.d):=fun i hi=>by
   have e:=h4 i hi;rw [List.getElem?_eq_getElem zo,ce,Option.bind_eq_some_iff] at e;obtain ⟨cs',g1,g2⟩:=e;obtain ⟨y0,y1,m, -, hl,hy0,hy1⟩:=trod_struct2 Tryz.underlying59 g2;rw [ce] at hl
   obtain ⟨x0,x1,rfl⟩:∃ x0 x1,cs'=[x0,x1]:=by
    match cs',hl with
    | [x0,x1],_=>exact ⟨x0,x1,rfl⟩
   simp only [cs1] at hy0 hy1;obtain ⟨z0,e0, -⟩:=DataW.trod_string us hy0;obtain ⟨z1,e1, -⟩:=DataW.trod_string us hy1;replace e0:[x0]=[Value.string z0]:=e0;replace e1:[x1]=[Value.string z1]:=e1;simp only [List.cons.injEq,and_true] at e0 e1;subst e0 e1;have r:=(vw g1).2;have r0:=r 0 zo;have r1:=r 1 zo;rw [show (a.add (i*2)).add 0=a.add (i*2) by simp [Addr.add]] at r0;exact ⟨⟨z0,z1⟩,r0,r1⟩
  let g:Nat→Fr:=fun i=>if h:i<len then (hc i h).choose else Fr.no
  have hgl:((List.range len).map g).length=len:=by simp
  refine ⟨some a,len,cap,(List.range len).map g,rfl,some a,cap,by rw [hgl],by rw [hgl];exact h1,h2,fun k hk=>?_⟩;rw [hgl] at hk;have hsp:=(hc k hk).choose_spec;have hg:g k=(hc k hk).choose:=by simp only [g,hk,dif_pos]
  rw [← hg] at hsp;rw [List.getElem_map,List.getElem_range];have hs:a.spot=none:=by simpa [Addr.add] using World.cell?_spot (hc 0 zo).choose_spec.1
  have hl:=yx hsp.1;obtain ⟨b,off,spo⟩:=a;simp only at hs;subst hs;simp only [Addr.add_lit] at hsp hl;exact ⟨b,off,rfl,hl,hsp⟩
theorem Ga {H:Type} {enc:TypeId × Value→H} {W:World} {base:Nat} {sp:Nat→Bool} {held:Bool} {fuel:Nat} {cs:List Value} {x:DataW H × List MemPlace} (h:DataW.trod enc Tryz.prog W base sp held fuel 23 cs=some x) :
  ∃ a n cap l,cs=[.slice a n cap]∧TN W (.slice a n cap) l:=by
 have ce:Tryz.prog.cellsOf 29=1:=by kernel_rfl
 rcases DataW.trod_slice Tryz.underlying23 h with ⟨rfl, -⟩|⟨a,len,cap,elems,rest,n, -, rfl, -, -, h1,h2,h3,h4, -⟩
 ·exact ⟨none,0,0,[],rfl,none,0,rfl,Nat.le_refl _,by omega,fun k hk=>by cases hk⟩
 ·unfold maxLen at h2
  have hc:∀ i,i<len→∃ l:List Fr,∃ a' n' c',W.cell? (a.add i)=some (.slice a' n' c')∧Yl W (.slice a' n' c') l:=fun i hi=>by
   have e:=h4 i hi;rw [List.getElem?_eq_getElem zo,ce,Nat.mul_one,Option.bind_eq_some_iff] at e;obtain ⟨cs',g1,g2⟩:=e;obtain ⟨a',n',c',l,rfl,hf⟩:=PV g2;have r0:=(vw g1).2 0 zo;rw [show (a.add i).add 0=a.add i by simp [Addr.add]] at r0;exact ⟨l,a',n',c',r0,hf⟩
  let g:Nat→List Fr:=fun i=>if h:i<len then (hc i h).choose else []
  have hgl:((List.range len).map g).length=len:=by simp
  refine ⟨some a,len,cap,(List.range len).map g,rfl,some a,cap,by rw [hgl],by rw [hgl];exact h1,h2,fun k hk=>?_⟩;rw [hgl] at hk;have hsp:=(hc k hk).choose_spec;have hg:g k=(hc k hk).choose:=by simp only [g,hk,dif_pos]
  rw [← hg] at hsp;rw [List.getElem_map,List.getElem_range];obtain ⟨_,_,_,z0, -⟩:=(hc 0 zo).choose_spec;have hs:a.spot=none:=by simpa [Addr.add] using World.cell?_spot z0
  obtain ⟨a',n',c',k1,k2⟩:=hsp;have hl:=yx k1;obtain ⟨b,off,spo⟩:=a;simp only at hs;subst hs;simp only [Addr.add_lit] at k1 hl;exact ⟨b,off,a',n',c',rfl,hl,k1,k2⟩
theorem K8 {H:Type} {enc:TypeId × Value→H} {W:World} {base:Nat} {sp:Nat→Bool} {held:Bool} {fuel:Nat} {cs:List Value} {x:DataW H × List MemPlace} (h:DataW.trod enc Tryz.prog W base sp held fuel 26 cs=some x) :
  ∃ r c a n cap,cs=[.int .u8 r,.int .u8 c,.slice a n cap]∧(0≤r∧r≤255)∧(0≤c∧c≤255)∧jk W (.slice a n cap):=by
 have u1:Tryz.prog.underlying 5=some (.int .u8):=Tryz.underlying5;have c1:Tryz.prog.cellsOf 5=1:=by kernel_rfl
 have c2:Tryz.prog.cellsOf 24=1:=by kernel_rfl
 have ct:Tryz.prog.cellsOf 26=3:=by kernel_rfl
 obtain ⟨y0,y1,y2,m,hl,h0,h1,h2⟩:=trod_struct3 Tryz.underlying26 h;rw [ct] at hl
 obtain ⟨x0,x1,x2,rfl⟩:∃ x0 x1 x2,cs=[x0,x1,x2]:=by
  match cs,hl with
  | [x0,x1,x2],_=>exact ⟨x0,x1,x2,rfl⟩
 simp only [c1,c2] at h0 h1 h2;obtain ⟨r,e0, -, w0⟩:=DataW.trod_int u1 h0;obtain ⟨c,e1, -, w1⟩:=DataW.trod_int u1 h1;obtain ⟨a,n,cap,e2,hd⟩:=UN h2;replace e0:[x0]=[Value.int .u8 r]:=e0;replace e1:[x1]=[Value.int .u8 c]:=e1;replace e2:[x2]=[Value.slice a n cap]:=e2;simp only [List.cons.injEq,and_true] at e0 e1 e2;subst e0 e1 e2;exact ⟨r,c,a,n,cap,rfl,Xr w0,Xr w1,hd⟩
theorem opn_two {H:Type} {enc:TypeId × Value→H} {W:World} {b0 base:Nat} {sp:Nat→Bool} {held:Bool} {v:Value} {d:DataW H} {p:List MemPlace}
  (hval:Value.okWide Tryz.prog W .any b0 28 v) (h:DataW.Trod enc Tryz.prog W base sp held 28 v d p) :
  ∃ A B r c v1 r1 c1 v2 mA mB,v= .agg #[A,B,.int .u8 r,.int .u8 c,v1,.int .u8 r1,.int .u8 c1,v2]∧TN W A mA∧TN W B mB∧(0≤r∧r≤255)∧(0≤c∧c≤255)∧(0≤r1∧r1≤255)∧(0≤c1∧c1≤255)∧jk W v1∧jk W v2:=by
 have ut:=Tryz.underlying28;have c1:Tryz.prog.cellsOf 23=1:=by kernel_rfl
 have c2:Tryz.prog.cellsOf 26=3:=by kernel_rfl
 have ct:Tryz.prog.cellsOf 28=8:=by kernel_rfl
 obtain ⟨cs,rfl,hsz, -⟩:∃ cs,v= .agg cs∧cs.size=Tryz.prog.cellsOf 28∧Row.okWide Tryz.prog W .any b0 28 cs:=by
  simpa [Value.okWide,ut] using hval
 rw [ct] at hsz;obtain ⟨l⟩:=cs
 obtain ⟨x0,x1,x2,x3,x4,x5,x6,x7,rfl⟩:∃ x0 x1 x2 x3 x4 x5 x6 x7,l=[x0,x1,x2,x3,x4,x5,x6,x7]:=by
  match l,hsz with
  | [x0,x1,x2,x3,x4,x5,x6,x7],_=>exact ⟨x0,x1,x2,x3,x4,x5,x6,x7,rfl⟩
 obtain ⟨fuel,hf⟩:=h;obtain ⟨y0,y1,y2,y3,m, -, h0,h1,h2,h3⟩:=trod_struct4 ut hf;simp only [c1,c2] at h0 h1 h2 h3;obtain ⟨a0,n0,cap0,mA,e0,hA⟩:=Ga h0;obtain ⟨a1,n1,ab2,mB,e1,hB⟩:=Ga h1;obtain ⟨r,c,a2,n2,cap2,e2,k1,k2,hd⟩:=K8 h2;obtain ⟨r1,c1,a3,n3,aB7,e3,k3,k4,hd1⟩:=K8 h3;replace e0:[x0]=[Value.slice a0 n0 cap0]:=e0;replace e1:[x1]=[Value.slice a1 n1 ab2]:=e1;replace e2:[x2,x3,x4]=[Value.int .u8 r,.int .u8 c,.slice a2 n2 cap2]:=e2;replace e3:[x5,x6,x7]=[Value.int .u8 r1,.int .u8 c1,.slice a3 n3 aB7]:=e3;simp only [List.cons.injEq,and_true] at e0 e1 e2 e3;subst e0 e1;obtain ⟨rfl,rfl,rfl⟩:=e2;obtain ⟨rfl,rfl,rfl⟩:=e3;exact ⟨_,_,r,c,_,r1,c1,_,mA,mB,rfl,hA,hB,k1,k2,k3,k4,hd,hd1⟩
theorem TN.sl {W:World} {v:Value} {m:List (List Fr)} (h:TN W v m):∃ a n c,v= .slice a n c:=by
 obtain ⟨a,cap,h, -⟩:=h;exact ⟨a,_,cap,h⟩
end Go.Proofs.YtfhappbmgghgdaaGreatDoor
namespace Go.Proofs.YtfhappbmgghgdaaGreatDoor
open Go Go.ChangeShapes Go.WideShapes Go.RowKit Go.Proofs Go.cK
section
variable {H:Type} {enc:TypeId × Value→H} {P:Program} {W:World} {base:Nat} {sp:Nat→Bool} {held:Bool}
theorem Kc {a:Addr} {n:Nat} {cs:List Value} (h:W.cells? base a n=some cs):∀ i,i<n→W.cell? (a.add i)=cs[i]? :=by
 unfold World.cells? at h;split at h
 ·exact fun i hi=>mapM_some_get h i i (by simp [hi])
 ·cases h
theorem Wt {a:Addr} {v:Value} (h:W.cell? a=some v):a.block<W.heap.size:=by
 unfold World.cell? at h
 rcases Nat.lt_or_ge a.block W.heap.size with h1|h1
 ·exact h1
 ·rw [Array.getElem?_eq_none h1] at h;cases h
theorem yM {T E:TypeId} {k0 k1:IntKind} {f0 f1:Field} {fuel:Nat} {cs:List Value} {x:DataW H × List MemPlace} (uT:P.underlying T=some (.slice E)) (uE:P.underlying E=some (.struct #[f0,f1])) (o0:f0.offset=0) (o1:f1.offset=1)
  (u0:P.underlying f0.type=some (.int k0)) (u1:P.underlying f1.type=some (.int k1)) (c0:P.cellsOf f0.type=1) (c1:P.cellsOf f1.type=1) (cE:P.cellsOf E=2) (h:DataW.trod enc P W base sp held fuel T cs=some x) :
  ∃ (a:Option Addr) (cap:Nat) (l:List (Int × Int)),cs=[.slice a l.length cap]∧l.length≤cap∧cap≤9223372036854775807∧∀ k (_:k<l.length),∃ b off,a=some ⟨b,off,none⟩∧b<W.heap.size ∧
   W.cell? ⟨b,off+k*2,none⟩=some (.int k0 l[k].1)∧W.cell? ⟨b,off+k*2+1,none⟩=some (.int k1 l[k].2)∧(Lit.int k0 l[k].1).wf=true∧(Lit.int k1 l[k].2).wf=true:=by
 rcases DataW.trod_slice uT h with ⟨rfl, -⟩|⟨a,len,cap,elems,rest,n, -, rfl, -, -, h1,h2,h3,h4, -⟩
 ·exact ⟨none,0,[],rfl,Nat.le_refl _,by omega,fun k hk=>by cases hk⟩
 ·unfold maxLen at h2
  have hc:∀ i,i<len→∃ p:Int × Int,W.cell? (a.add (i*2))=some (.int k0 p.1)∧W.cell? ((a.add (i*2)).add 1)=some (.int k1 p.2)∧(Lit.int k0 p.1).wf=true∧(Lit.int k1 p.2).wf=true:=fun i hi=>by
   have e:=h4 i hi;rw [List.getElem?_eq_getElem zo,cE,Option.bind_eq_some_iff] at e;obtain ⟨cs',g1,g2⟩:=e;obtain ⟨y0,y1,m, -, hl,hy0,hy1⟩:=trod_struct2 uE g2;rw [cE] at hl
   obtain ⟨x0,x1,rfl⟩:∃ x0 x1,cs'=[x0,x1]:=by
    match cs',hl with
    | [x0,x1],_=>exact ⟨x0,x1,rfl⟩
   rw [o0,c0] at hy0;rw [o1,c1] at hy1;obtain ⟨z0,e0, -, w0⟩:=DataW.trod_int u0 hy0;obtain ⟨z1,e1, -, w1⟩:=DataW.trod_int u1 hy1;replace e0:[x0]=[Value.int k0 z0]:=e0;replace e1:[x1]=[Value.int k1 z1]:=e1;simp only [List.cons.injEq,and_true] at e0 e1;subst e0 e1;have r:=Kc g1;have r0:=r 0 zo;have r1:=r 1 zo;rw [show (a.add (i*2)).add 0=a.add (i*2) by simp [Addr.add]] at r0;exact ⟨(z0,z1),r0,r1,w0,w1⟩
  let g:Nat→Int × Int:=fun i=>if h:i<len then (hc i h).choose else (0,0)
  refine ⟨some a,cap,(List.range len).map g,by simp,by simpa using h1,h2,fun k hk=>?_⟩;rw [List.length_map,List.length_range] at hk;have hsp:=(hc k hk).choose_spec;have hg:g k=(hc k hk).choose:=by simp only [g,hk,dif_pos]
  rw [← hg] at hsp;rw [List.getElem_map,List.getElem_range];have hs:a.spot=none:=by simpa [Addr.add] using World.cell?_spot (hc 0 zo).choose_spec.1
  have hl:=Wt hsp.1;obtain ⟨b,off,spo⟩:=a;simp only at hs;subst hs;simp only [Addr.add_lit] at hsp hl;exact ⟨b,off,rfl,hl,hsp⟩
end
theorem open_bands {H:Type} {enc:TypeId × Value→H} {W:World} {b0 base:Nat} {sp:Nat→Bool} {held:Bool} {v:Value} {d:DataW H} {p:List MemPlace}
  (hval:Value.okWide Tryz.prog W .any b0 63 v) (h:DataW.Trod enc Tryz.prog W base sp held 63 v d p):∃ l,jZ W 69 v l:=by
 obtain ⟨a0,n0,cap0,rfl⟩:=okWide_slice Tryz.underlying63 hval;obtain ⟨fuel,hf⟩:=h;obtain ⟨a,cap,l,e,h1,h2,h3⟩:=yM (k0:=.i64) (k1:=.i64) Tryz.underlying63 Tryz.underlying69 rfl rfl Tryz.underlying3 Tryz.underlying3 zk zk zk hf;replace e:[Value.slice a0 n0 cap0]=[.slice a l.length cap]:=e;simp only [List.cons.injEq,and_true] at e;refine ⟨l,a,cap,e,h1,h2,fun k hk=>?_⟩;obtain ⟨b,off,k1,k2,k3,k4, -⟩:=h3 k hk;exact ⟨b,off,k1,k2,k3,k4⟩
theorem open_drafts {H:Type} {enc:TypeId × Value→H} {W:World} {b0 base:Nat} {sp:Nat→Bool} {held:Bool} {v:Value} {d:DataW H} {p:List MemPlace}
  (hval:Value.okWide Tryz.prog W .any b0 64 v) (h:DataW.Trod enc Tryz.prog W base sp held 64 v d p):∃ l,Xm W v l:=by
 obtain ⟨a0,n0,cap0,rfl⟩:=okWide_slice Tryz.underlying64 hval;obtain ⟨fuel,hf⟩:=h;obtain ⟨a,cap,l,e,h1,h2,h3⟩:=yM (k0:=.i64) (k1:=.u32) Tryz.underlying64 Tryz.underlying67 rfl rfl Tryz.underlying2 Tryz.underlying65 zk zk zk hf;replace e:[Value.slice a0 n0 cap0]=[.slice a l.length cap]:=e;simp only [List.cons.injEq,and_true] at e;refine ⟨l,a,cap,e,h1,h2,fun k hk=>?_⟩;obtain ⟨b,off,k1,k2,k3,k4, -, k5⟩:=h3 k hk;exact ⟨b,off,k1,k2,k3,k4,YO k5⟩
end Go.Proofs.YtfhappbmgghgdaaGreatDoor
namespace Go.Proofs.matrix
theorem wroot:True:=trivial
end Go.Proofs.matrix
