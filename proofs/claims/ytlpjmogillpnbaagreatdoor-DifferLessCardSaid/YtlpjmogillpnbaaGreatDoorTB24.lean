/- Lemmas for the proof. No condition. -/
import Derived.Test.YtlpjmogillpnbaaGreatDoorTB23
import Derived.Laws.EntriesVeiled
set_option linter.unusedVariables false
set_option linter.unusedSimpArgs false
set_option maxRecDepth 100000
set_option maxHeartbeats 16000000
open Go.Ending renaming returned → ah
open Go.IntKind renaming i64 → I
open Go.Value renaming agg → au, bool → ay, int → Z, pointer → aA, slice → aj, string → O, tuple → aD
open List renaming replicate → bD
open Nat renaming add_zero → eO, eq_zero_or_pos → aS, le_refl → aI, le_trans → aB, lt_or_ge → aO, mul_le_mul_left → aK, one_mul → fP
namespace Go.Proofs.whole
open Go Go.RowKit Go.SW Go.Num Go.Mem Go.Proofs Go.Dec Go.gW
def wS (z:Int):Value:=if kg z.natAbs=true then aD #[dA z,Z I 0] else aD #[O ⟨#[]⟩,Z I 6]
theorem iG (v:Value) (z:Int) (w:World) (h:dN w v z) (kz:sz 1000000000 z.natAbs≤1099511627776) (ht:gJ.Pow w) :
  Calls Tryz.prog 192 #[v] w (fun e w'=>e= ah (wS z)∧Below w.heap.size w w'):=by
 obtain ⟨pa,l,ca,rfl,hm⟩:=h
 have hlen:((1+(Lib.decDigits z.natAbs).length:Nat):Int)≤9223372036854775807:=by
  have h1:=qB (bN (B:=1000000000) zo z.natAbs);rw [bH zo] at h1;unfold sz at kz;omega
 have Sb:¬ 9223372036854775807<1+(Lib.decDigits z.natAbs).length:=by omega
 have OU:=zh (fun W (hW:Below w.heap.size w W)=>j3 _ z.natAbs W (hm.later hW) kz (ht.later hW));have HDI:=zh (fun W (hW:Below w.heap.size w W)=>om _ z.natAbs W (hm.later hW) kz (ht.later hW));unfold wS;clear hm kz ht hlen
 rcases aO 600 (Lib.decDigits z.natAbs).length with hb|hb
 ·rw [if_neg (by rw [FZ hb];decide)];have g:decide ((600:Int)<((Lib.decDigits z.natAbs).length:Int))=true:=by simp;omega
  clear hb Sb;generalize (Lib.decDigits z.natAbs).length=n at *;generalize decide (z<0)=b at *;go_enter Tryz.func192,Tryz.ntmps192
  go_wp2_with fail
  refine (OU.out _ aN).mono ?_;rintro e w1 ⟨rfl,hb1⟩;have hw:=Bt (show Below w.heap.size w (w.alloc (.cells #[aj pa l ca,ay b] 177)) from aN) hb1;go_wp2_with fail
  go_ret2
  exact ⟨rfl,hw⟩
 ·rw [if_pos (dZ.2 hb)];have g:decide ((600:Int)<((Lib.decDigits z.natAbs).length:Int))=false:=by simp;omega
  by_cases hz:z<0
  ·have e:dA z= O ⟨(45::Lib.decDigits z.natAbs).toArray⟩:=by unfold dA Lib.itoa;rw [if_pos hz]
   rw [e,decide_eq_true hz];clear e hz hb;go_enter Tryz.func192,Tryz.ntmps192
   go_wp2_with fail
   refine (OU.out _ aN).mono ?_;rintro e w1 ⟨rfl,hb1⟩;have hx:=aC.later (aC.new w #[aj pa l ca,ay true] 177) hb1;have cx:=hx.cell;have lx:=hx.lt;have HW:=zh (Bt (show Below w.heap.size w (w.alloc (.cells #[aj pa l ca,ay true] 177)) from aN) hb1);go_wp2_with fail
   refine (HDI.out _ HW.out).mono ?_;rintro e w2 ⟨rfl,hb2⟩;have hw:=Bt HW.out hb2;go_wp2_with fail
   go_ret2
   exact ⟨rfl,hw⟩
  ·have e:dA z= O ⟨(Lib.decDigits z.natAbs).toArray⟩:=by unfold dA Lib.itoa;rw [if_neg hz,show z.toNat=z.natAbs by omega]
   rw [e,decide_eq_false hz];clear e hz hb;go_enter Tryz.func192,Tryz.ntmps192
   go_wp2_with fail
   refine (OU.out _ aN).mono ?_;rintro e w1 ⟨rfl,hb1⟩;have hx:=aC.later (aC.new w #[aj pa l ca,ay false] 177) hb1;have cx:=hx.cell;have lx:=hx.lt;have HW:=zh (Bt (show Below w.heap.size w (w.alloc (.cells #[aj pa l ca,ay false] 177)) from aN) hb1);go_wp2_with fail
   refine (HDI.out _ HW.out).mono ?_;rintro e w2 ⟨rfl,hb2⟩;have hw:=Bt HW.out hb2;go_wp2_with fail
   go_ret2
   exact ⟨rfl,hw⟩
theorem nQ {a b:Nat} (h:kg b=true) (hab:a≤b):kg a=true:=by
 unfold kg at *;have:=of_decide_eq_true h;exact decide_eq_true zo
theorem mX {k a:Nat} (hk:1≤k):eH k a≤a:=by
 have h:=(kS hk a).1
 rcases aS (eH k a) with h0|h0
 ·omega
 ·have:=Nat.le_self_pow (by omega:k≠0) (eH k a);omega
theorem pX {a:Nat} (h:kg a=true):wS (a:Int)= aD #[dA (a:Int),Z I 0]:=by
 unfold wS;rw [Int.natAbs_natCast,if_pos h]
theorem BN (a k:Nat) (ha:kg a=true) (hk:1≤k) (k12:k≤12) (w:World) (ht:gJ.Pow w) :
  Calls Tryz.prog 154 #[dA (a:Int),Z I (k:Int)] w (fun e w'=>e= ah (aD #[dA (eH k a:Nat),Z I 0])∧Below w.heap.size w w'):=by
 have hd:(Lib.decDigits a).length≤600:=dZ.1 ha;have hs:=jB ha;have hro:kg (eH k a)=true:=nQ ha (mX hk);have HR:=zh (fun W=>sV (a:Int) (by rw [Int.natAbs_natCast];exact hd) W);have Za:=zh (fun x W hx hp=>sQ x a k W hx hk k12 zo zo hp);have Fj:=zh (fun v W h hp=>iG v (eH k a:Nat) W h (by rw [Int.natAbs_natCast];exact aB (jB hro) zo) hp);rw [pX hro] at Fj;have HP:=zh ht;have g0:decide ((a:Int)<0)=false:=by simp
 have g1:decide ((k:Int)<1)=false:=by simp;omega
 have g2:decide ((12:Int)<(k:Int))=false:=by simp;omega
 clear hd hs hro ha ht;obtain ⟨r,Er⟩:∃ r,eH k a=r:=⟨_,rfl⟩;rw [Er] at Za Fj ⊢;clear Er;unfold dA at HR Fj ⊢;generalize (⟨(Lib.itoa (a:Int)).toArray⟩:ByteArray)=ta at *;generalize (⟨(Lib.itoa (r:Int)).toArray⟩:ByteArray)=tr at *;go_enter Tryz.func154,Tryz.ntmps154
 go_wp2_with fail
 refine (HR.out _).mono ?_;rintro e w1 ⟨v,rfl,hb1,hv⟩;obtain ⟨pa,l,ca,rfl,hm⟩:=hv;rw [Int.natAbs_natCast] at hm;rw [g0];have HM:=zh hm;have HB1:=zh hb1;clear hm hb1;go_wp2_with fail
 have hb2:Below w1.heap.size w1 (w1.alloc (.cells #[aj pa l ca,ay false] 177)):=aN;refine (Za.out _ _ (HM.out.later hb2) (HP.out.later (Bt HB1.out hb2))).mono ?_;rintro e w2 ⟨v,rfl,hb3,hv⟩;obtain ⟨p2,l2,c2,rfl⟩:=hv.slice;have SE:=zh hv;have HB2:=zh (Bt HB1.out (Bt hb2 hb3));clear hv hb2 hb3;go_wp2_with fail
 refine (dU _ r false _ SE.out).mono ?_;rintro e w3 ⟨v,rfl,hb4,hv⟩;obtain ⟨p3,l3,c3,rfl,TR⟩:=id hv;have HI:=zh (hv.cast (show iM r false=(r:Int) from rfl));have HB3:=zh (Bt HB2.out hb4);have g3:decide (iM r false<0)=false:=by unfold iM;simp
 rw [g3] at HI ⊢;clear hv TR hb4;go_wp2_with fail
 refine (Fj.out _ _ HI.out (HP.out.later HB3.out)).mono ?_;rintro e w4 ⟨rfl,hb5⟩;have hw:=Bt HB3.out hb5;go_wp2_with fail
 go_ret2
 exact ⟨rfl,hw⟩
theorem GL (a n:Nat) (ha:kg a=true) (n40:n≤40) (w:World) (ht:gJ.Pow w) :
  Calls Tryz.prog 151 #[dA (a:Int),Z I (n:Int)] w (fun e w'=>e= ah (wS (a^n:Nat))∧Below w.heap.size w w'):=by
 have hd:(Lib.decDigits a).length≤600:=dZ.1 ha;have hs:=jB ha;have hp:∀ i,i≤n→sz 1000000000 (a^i)≤10000:=fun i hi=>aB (Fw hs i) (by have:=aK 67 (show i≤40 by omega);omega);have HR:=zh (fun W=>sV (a:Int) (by rw [Int.natAbs_natCast];exact hd) W);have Za:=zh (fun x W hx=>CP x a n W hx zo (fun i hi=>aB (hp i hi) zo) zo);have Fj:=zh (fun v W h hq=>iG v (a^n:Nat) W h (by rw [Int.natAbs_natCast];exact aB (hp n (aI _)) zo) hq);have HP:=zh ht;have g0:decide ((a:Int)<0)=false:=by simp
 have g1:decide ((n:Int)<0)=false:=by simp
 have g2:decide ((40:Int)<(n:Int))=false:=by simp;omega
 clear hd hs hp ha ht;obtain ⟨r,Er⟩:∃ r,a^n=r:=⟨_,rfl⟩;rw [Er] at Za Fj ⊢;clear Er
 obtain ⟨tr,kr,Ew⟩:∃ tr kr,wS (r:Int)= aD #[O tr,Z I kr]:=by
  unfold wS dA;split
  ·exact ⟨_,_,rfl⟩
  ·exact ⟨_,_,rfl⟩
 rw [Ew] at Fj ⊢;clear Ew;unfold dA at HR ⊢;generalize (⟨(Lib.itoa (a:Int)).toArray⟩:ByteArray)=ta at *;go_enter Tryz.func151,Tryz.ntmps151
 go_wp2_with fail
 refine (HR.out _).mono ?_;rintro e w1 ⟨v,rfl,hb1,hv⟩;obtain ⟨pa,l,ca,rfl,hm⟩:=hv;rw [Int.natAbs_natCast] at hm;rw [g0];have HM:=zh hm;have HB1:=zh hb1;clear hm hb1;go_wp2_with fail
 obtain ⟨wx,EW,hz,X⟩:=EP w1 #[aj pa l ca,ay false] 177;rw [EW];clear EW;replace HM:=zh (HM.out.later hz);have HB2:=zh (Bt HB1.out hz);clear hz HB1;obtain ⟨bx,eb⟩:∃ y,w1.heap.size=y:=⟨_,rfl⟩;rw [eb] at X ⊢;have cX:=X.out.cell;have lX:=X.out.lt;refine aT [(.pure,0),(.read,1),(.pure,2),(.pure,4),(.read,5),(.ext,3),(.pure,6),(.pure,7),(.pure,8),(.pure,9),(.pure,10),(.ext,11),(.ext,12),(.pure,13),(.pure,14),(.fin,15),(.fin,16)] zk zk zR zP ?_;refine zW ?_;refine aW rfl rfl (fun we hbe J hJ=>?_);go_simp;have h1:Below wx.heap.size wx we:=aN;refine (Za.out _ _ (HM.out.later h1)).mono ?_;rintro e w2 ⟨v,rfl,hb2,hv⟩;obtain ⟨p2,l2,c2,rfl⟩:=hv.slice;refine hJ _ _ hb2 ?_;clear hJ J;have SE:=zh hv;have h2:=Bt h1 hb2;clear hv h1 hbe hb2
 repeat (first|(refine mM rfl rfl (fun J hJ=>?_);go_simp;refine hJ _ ?_;clear hJ J)|(refine qJ rfl rfl rfl (fun J hJ=>?_);go_simp;refine hJ _ ?_;clear hJ J))
 refine aW rfl rfl (fun we hbe J hJ=>?_);go_simp;have h3:Below w2.heap.size w2 we:=aN;refine (dU _ r false _ (SE.out.later h3)).mono ?_;rintro e w3 ⟨v,rfl,hb3,hv⟩;obtain ⟨p3,l3,c3,rfl,TR⟩:=id hv;have HI:=zh (hv.cast (show iM r false=(r:Int) from rfl));have g3:decide (iM r false<0)=false:=by unfold iM;simp
 rw [g3] at HI ⊢;refine hJ _ _ hb3 ?_;clear hJ J;have h4:=Bt h2 (Bt h3 hb3);clear hv TR hb3 h3 h2 hbe
 repeat (first|(refine mM rfl rfl (fun J hJ=>?_);go_simp;refine hJ _ ?_;clear hJ J)|(refine qJ rfl rfl rfl (fun J hJ=>?_);go_simp;refine hJ _ ?_;clear hJ J))
 refine aW rfl rfl (fun we hbe J hJ=>?_);go_simp;have h5:Below w3.heap.size w3 we:=aN;refine (Fj.out _ _ (HI.out.later h5) (HP.out.later (Bt HB2.out (Bt h4 h5)))).mono ?_;rintro e w4 ⟨rfl,hb4⟩;refine hJ _ _ hb4 ?_;clear hJ J;have h6:=Bt h4 (Bt h5 hb4);clear hb4 h5 h4 hbe
 repeat (first|(refine mM rfl rfl (fun J hJ=>?_);go_simp;refine hJ _ ?_;clear hJ J)|(refine qJ rfl rfl rfl (fun J hJ=>?_);go_simp;refine hJ _ ?_;clear hJ J))
 refine dG [_,_] rfl (fun wf hbf=>?_);have hw:Below w.heap.size w wf:=Bt HB2.out (Bt h6 aN);go_wp2_with fail
 go_ret2
 exact ⟨rfl,hw⟩
end Go.Proofs.whole
namespace Go.Mem
open Go Go.RowKit
section
variable {P:Program} {fn:Func} {R:Ending→World→Prop} {w:World} {tmps:Array Value}
theorem CG {p q u:Tmp} {ty pR:TypeId} (h:fn.results=#[.cell p ty,.cell q pR,.tmp u]) :
  (results fn tmps).run P w=((asAddr (tmps.getD p undef)).run P w).andThen fun a w₁=>((loadVar ty a).run P w₁).andThen fun v w₂=>((asAddr (tmps.getD q undef)).run P w₂).andThen fun a' w₃=>((loadVar pR a').run P w₃).andThen fun v' w₄=>.ok (aD #[v,v',tmps.getD u undef]) w₄:=by
 simp only [results,h];simp [Sem.run_bind,Result.andThen]
theorem PU {p q u:Tmp} {ty pR t t2:TypeId} {g g2:Nat} {cs cs2:Array Value} {d d2:TypeDesc} (h:fn.results=#[.cell p ty,.cell q pR,.tmp u])
  (hp:tmps.getD p undef= aA (some ⟨g,0,none⟩)) (hg:aC w g cs t) (hu:P.underlying ty=some d) (hd:(match d with| .struct _| .array _ _=>true| _=>false)=true) (hi:(P.info? ty).map (·.size)=some cs.size)
  (hp2:tmps.getD q undef= aA (some ⟨g2,0,none⟩)) (hg2:aC w g2 cs2 t2) (hu2:P.underlying pR=some d2) (hd2:(match d2 with| .struct _| .array _ _=>true| _=>false)=true) (hi2:(P.info? pR).map (·.size)=some cs2.size)
  (k:R (ah (aD #[au cs,au cs2,tmps.getD u undef])) w):bodyPost P fn R .ret { tmps:=tmps,defers:=[] } w:=by
 have e:(results fn tmps).run P w= .ok (aD #[au cs,au cs2,tmps.getD u undef]) w:=by
  rw [CG h,hp];simp only [asAddr,Sem.run_pure,Result.andThen_ok];rw [run_loadVar_row w g t ty cs (0,0) d hg hu hd hi];simp only [Result.andThen_ok];rw [hp2];simp only [asAddr,Sem.run_pure,Result.andThen_ok];rw [run_loadVar_row w g2 t2 pR cs2 (0,0) d2 hg2 hu2 hd2 hi2];rfl
 refine bodyPost_ret e rfl k
end
end Go.Mem
namespace Go.Proofs.whole
open Go Go.RowKit Go.SW Go.Num Go.Mem Go.Proofs Go.Dec Go.gW
theorem Bb (a b:Nat) (ha:(Lib.decDigits a).length≤600) (hb:(Lib.decDigits b).length≤600) (w:World) :
  Calls Tryz.prog 247 #[dA (a:Int),dA (b:Int)] w (fun e w'=>∃ p1 l1 c1 p2 l2 c2,e= ah (aD #[au #[aj p1 l1 c1,ay false],au #[aj p2 l2 c2,ay false],Z I 0])∧Below w.heap.size w w'∧bC w' (aj p1 l1 c1) a∧bC w' (aj p2 l2 c2) b):=by
 have RA:Hid (∀ W,Calls Tryz.prog 134 #[dA (a:Int)] W (fun e w'=>∃ p l c,e= ah (aD #[au #[aj p l c,ay false],ay true])∧Below W.heap.size W w'∧bC w' (aj p l c) a)):=zh fun W=>(sV (a:Int) (by rw [Int.natAbs_natCast];exact ha) W).mono fun e w' ⟨v,h1,h2,p,l,c,h3,h4⟩=>by
  rw [Int.natAbs_natCast] at h4;have g0:decide ((a:Int)<0)=false:=by simp
  rw [g0] at h3;exact ⟨p,l,c,by rw [h1,h3],h2,h4⟩
 have RB:Hid (∀ W,Calls Tryz.prog 134 #[dA (b:Int)] W (fun e w'=>∃ p l c,e= ah (aD #[au #[aj p l c,ay false],ay true])∧Below W.heap.size W w'∧bC w' (aj p l c) b)):=zh fun W=>(sV (b:Int) (by rw [Int.natAbs_natCast];exact hb) W).mono fun e w' ⟨v,h1,h2,p,l,c,h3,h4⟩=>by
  rw [Int.natAbs_natCast] at h4;have g0:decide ((b:Int)<0)=false:=by simp
  rw [g0] at h3;exact ⟨p,l,c,by rw [h1,h3],h2,h4⟩
 clear ha hb;unfold dA at *;generalize (⟨(Lib.itoa (a:Int)).toArray⟩:ByteArray)=ta at *;generalize (⟨(Lib.itoa (b:Int)).toArray⟩:ByteArray)=tb at *;go_enter Tryz.func247,Tryz.ntmps247
 go_wp2_with fail
 obtain ⟨Te,EW,hz,X1,X2⟩:=Sz w #[aj none 0 0,ay false] 177 #[aj none 0 0,ay false] 177;rw [EW];have hk2:=Bt (Below.refl _ _) hz;clear EW hz;refine (RA.out _).mono ?_;rintro e Co ⟨p1,l1,c1,rfl,hb3,hm⟩;replace X1:=X1.bl hb3;replace X2:=X2.bl hb3;have hk5:=Bt hk2 hb3;clear hk2;have NX:=zh hm;clear hb3 hm;obtain ⟨zq,zm,Fg⟩:=X1.clf;go_wp2_with fail
 clear zq zm Fg;have hz:Below w.heap.size w ((Co.setCell ⟨w.heap.size,0,none⟩ (aj p1 l1 c1)).setCell ⟨w.heap.size,1,none⟩ (ay false)):=aN;obtain ⟨wq6,EW⟩:∃ y,((Co.setCell ⟨w.heap.size,0,none⟩ (aj p1 l1 c1)).setCell ⟨w.heap.size,1,none⟩ (ay false))=y:=⟨_,rfl⟩;have tX1:=((X1.out.set 0 (aj p1 l1 c1)).set 1 (ay false));have tX2:=((X2.out.setOther (a:=⟨w.heap.size,0,none⟩) (aj p1 l1 c1) (by first|assumption|(simp;done)|(simp;omega))).setOther (a:=⟨w.heap.size,1,none⟩) (ay false) (by first|assumption|(simp;done)|(simp;omega)));have tNX:=((NX.out.setOther X1.out zd 0 (aj p1 l1 c1)).setOther (X1.out.set 0 (aj p1 l1 c1)) zd 1 (ay false));rw [EW] at tX1;replace X1:Hid (aC wq6 (w.heap.size) #[aj p1 l1 c1,ay false] 177):=zh tX1;clear tX1;rw [EW] at tX2;replace X2:Hid (aC wq6 (w.heap.size+1) #[aj none 0 0,ay false] 177):=zh tX2;clear tX2
 rw [EW] at tNX;replace NX:=zh tNX;clear tNX;rw [EW] at hz ⊢;clear EW;clear hk5;have V8:=hz;clear hz;refine (RB.out _).mono ?_;rintro e Zv ⟨p2,l2,c2,rfl,og,hm⟩;replace X1:=X1.bl og;replace X2:=X2.bl og;replace NX:=zh (NX.out.later og);have hk9:=Bt V8 og;clear V8;have NY:=zh hm;clear og hm;obtain ⟨Ld,Lb,Wh⟩:=X2.clf;have HK:=zh hk9;obtain ⟨wl,Ewl⟩:∃ y,y=Zv:=⟨_,rfl⟩;subst Ewl;have c1':=X1.out.cell;have l1':=X1.out.lt;have f1':=X1.out.free;have c2':=X2.out.cell;have l2':=X2.out.lt;have f2':=X2.out.free;go_wp2_with fail
 go_region
 go_wp2_with fail
 have hw:=HK.out;have hx1:=X1.out;have hx2:=X2.out;refine PU rfl rfl bf Tryz.underlying177 rfl zk rfl bf Tryz.underlying177 rfl zk ?_;exact ⟨_,_,_,_,_,_,rfl,aN,aR,aR⟩
end Go.Proofs.whole
namespace Go.Proofs.whole
open Go Go.RowKit Go.SW Go.Num Go.Mem Go.Proofs Go.Dec
theorem FP (v u:Value) (z y:Int) (w:World) (h:dN w v z) (h2:dN w u y) (kz:sz 1000000000 z.natAbs≤549755813888) (ky:sz 1000000000 y.natAbs≤549755813888) :
  Calls Tryz.prog 250 #[v,u] w (fun e w'=>∃ v,e= ah v∧Below w.heap.size w w'∧dN w' v (z*y)):=by
 obtain ⟨CZ,lH,Ep,rfl,H⟩:=h;replace H:=zh H;obtain ⟨ap4,lH2,au3,rfl,H2⟩:=h2;replace H2:=zh H2;have KZ:=zh kz;have KY:=zh ky;clear kz ky;go_enter Tryz.func250,Tryz.ntmps250
 go_wp2_with fail
 refine aT [(.pure,0),(.read,1),(.pure,2),(.read,3),(.pure,5),(.read,6),(.pure,7),(.read,8),(.pure,9),(.ext,4),(.ext,10),(.fin,11)] zk zk zR zP ?_;refine zV ?_;refine aW rfl rfl (fun w1 hb1 J hJ=>?_);go_simp;have BR:=aC.later (aC.drew (aC.at2 _ _ _ _ _)) hb1;have bT:=BR.cell;have bS:=BR.free;refine (jm _ _ z.natAbs y.natAbs _ aR aR (aB KZ.out zo) (aB KY.out zo)).mono ?_;rintro e v1 ⟨v,rfl,hc1,hv⟩;obtain ⟨Tz,lHS,UF,rfl⟩:=hv.slice;have HS:=zh hv;clear hv;replace BR:=aC.later (BR) hc1;replace bT:=BR.cell;replace bS:=BR.free;refine hJ _ _ hc1 ?_;clear hJ J;refine aW rfl rfl (fun w2 hb2 J hJ=>?_);go_simp;replace BR:=aC.later (BR) hb2;replace bT:=BR.cell;replace bS:=BR.free;refine (dU _ (z.natAbs*y.natAbs) _ _ aR).mono ?_;rintro e v2 ⟨v,rfl,hc2,hv⟩;obtain ⟨Tx,lHT,UE,rfl,HT⟩:=hv;replace HT:=zh HT
 replace BR:=aC.later (BR) hc2;replace bT:=BR.cell;replace bS:=BR.free;refine hJ _ _ hc2 ?_;clear hJ J;refine dG [_] rfl (fun w5 hb5=>?_);replace BR:=aC.later (BR) hb5;replace bT:=BR.cell;replace bS:=BR.free;go_wp2_with fail
 refine iT rfl rfl bf Tryz.underlying177 rfl zk ?_;exact ⟨_,rfl,aN,(dN.dW aR).cast (xE z y)⟩
end Go.Proofs.whole
namespace Go.Proofs.whole
open Go Go.RowKit Go.SW Go.Num Go.Mem Go.Proofs Go.Dec Go.gW
theorem zC (a b:Nat) (ha:kg a=true) (hb:kg b=true) (w:World) (ht:gJ.Pow w) :
  Calls Tryz.prog 195 #[Z I 2,dA (a:Int),dA (b:Int)] w (fun e w'=>e= ah (wS (a*b:Nat))∧Below w.heap.size w w'):=by
 have sa:=jB ha;have sb:=jB hb
 have sr:sz 1000000000 (a*b)≤1000:=by
  have h1:=kC (B:=1000000000) zo a b;have h2:=uK (B:=1000000000) zo a b;omega
 have KO:=zh (fun W=>Bb a b (dZ.1 ha) (dZ.1 hb) W);have Vt:=zh (fun v u W hv hu=>FP v u (a:Int) (b:Int) W hv hu (by rw [Int.natAbs_natCast];omega) (by rw [Int.natAbs_natCast];omega));have Fj:=zh (fun v W h hq=>iG v (a*b:Nat) W h (by rw [Int.natAbs_natCast];omega) hq);have HP:=zh ht;clear sa sb sr ha hb ht;have e:(a:Int)*(b:Int)=((a*b:Nat):Int):=by simp
 rw [e] at Vt;have g0:decide ((a:Int)<0)=false:=by simp
 have g1:decide ((b:Int)<0)=false:=by simp
 have IA:Hid (∀ W p l c,bC W (aj p l c) a→dN W (au #[aj p l c,ay false]) (a:Int)):=zh fun W p l c h=>⟨p,l,c,by rw [g0],by rw [Int.natAbs_natCast];exact h⟩;have IB:Hid (∀ W p l c,bC W (aj p l c) b→dN W (au #[aj p l c,ay false]) (b:Int)):=zh fun W p l c h=>⟨p,l,c,by rw [g1],by rw [Int.natAbs_natCast];exact h⟩;clear e g0 g1;obtain ⟨r,Er⟩:∃ r,a*b=r:=⟨_,rfl⟩;rw [Er] at Vt Fj ⊢;clear Er
 obtain ⟨tr,kr,Ew⟩:∃ tr kr,wS (r:Int)= aD #[O tr,Z I kr]:=by
  unfold wS dA;split
  ·exact ⟨_,_,rfl⟩
  ·exact ⟨_,_,rfl⟩
 rw [Ew] at Fj ⊢;clear Ew;unfold dA at KO ⊢;generalize (⟨(Lib.itoa (a:Int)).toArray⟩:ByteArray)=ta at *;generalize (⟨(Lib.itoa (b:Int)).toArray⟩:ByteArray)=tb at *;go_enter Tryz.func195,Tryz.ntmps195
 go_wp2_with fail
 refine (KO.out _).mono ?_;rintro e w1 ⟨p1,l1,c1,p2,l2,c2,rfl,hb1,hx,hy⟩;have HX:=zh hx;have HY:=zh hy;have HB1:=zh hb1;clear hx hy hb1;go_wp2_with fail
 obtain ⟨wx,EW,hz,X1,X2,X3⟩:=Pf w1 #[aj p1 l1 c1,ay false] 177 #[aj p2 l2 c2,ay false] 177 #[.func (.func 248) #[] #[],.func (.func 249) #[] #[],.func (.func 250) #[] #[],.func (.func 251) #[] #[]] 294;rw [EW];clear EW;replace HX:=zh (HX.out.later hz);replace HY:=zh (HY.out.later hz);have HB2:=zh (Bt HB1.out hz);clear hz HB1;obtain ⟨bx,eb⟩:∃ y,w1.heap.size=y:=⟨_,rfl⟩;rw [eb] at X1 X2 X3 ⊢;have zq:=X1.out.cell;have zm:=X1.out.lt;have Ld:=X2.out.cell;have Lb:=X2.out.lt;have cX3:=X3.out.cell;have lX3:=X3.out.lt;refine aT [(.pure,0),(.pure,1),(.pure,2),(.read,3),(.read,4),(.read,5),(.ext,6),(.ext,7),(.pure,8),(.pure,9),(.fin,10),(.fin,11)] zk zk zR zP ?_;refine zV ?_;refine aW rfl rfl (fun we hbe J hJ=>?_);go_simp;have h1:Below wx.heap.size wx we:=aN;refine (Vt.out _ _ _ (IA.out _ _ _ _ (HX.out.later h1)) (IB.out _ _ _ _ (HY.out.later h1))).mono ?_
 rintro e w2 ⟨v,rfl,hb2,hv⟩;obtain ⟨p3,l3,c3,rfl,TR⟩:=id hv;have HI:=zh hv;generalize decide ((r:Int)<0)=br at *;refine hJ _ _ hb2 ?_;clear hJ J;have h2:=Bt h1 hb2;clear hv h1 hbe hb2 TR;refine zV ?_;refine aW rfl rfl (fun we hbe J hJ=>?_);go_simp;have h5:Below w2.heap.size w2 we:=aN;refine (Fj.out _ _ (HI.out.later h5) (HP.out.later (Bt HB2.out (Bt h2 h5)))).mono ?_;rintro e w4 ⟨rfl,hb4⟩;refine hJ _ _ hb4 ?_;clear hJ J;have h6:=Bt h2 (Bt h5 hb4);clear hb4 h5 h2 hbe;refine zV ?_;refine dG [_,_] rfl (fun wf hbf=>?_);have hw:Below w.heap.size w wf:=Bt HB2.out (Bt h6 aN);go_wp2_with fail
 go_ret2
 exact ⟨rfl,hw⟩
theorem yU (a b:Nat) (ha:kg a=true) (hb:kg b=true) (w:World) (ht:gJ.Pow w) :
  Calls Tryz.prog 223 #[dA (a:Int),dA (b:Int)] w (fun e w'=>e= ah (wS (a*b:Nat))∧Below w.heap.size w w'):=by
 have H:=zh (zC a b ha hb w ht)
 obtain ⟨tr,kr,Ew⟩:∃ tr kr,wS (a*b:Nat)= aD #[O tr,Z I kr]:=by
  unfold wS dA;split
  ·exact ⟨_,_,rfl⟩
  ·exact ⟨_,_,rfl⟩
 rw [Ew] at H ⊢;clear Ew ha hb ht;unfold dA at *;generalize (⟨(Lib.itoa (a:Int)).toArray⟩:ByteArray)=ta at *;generalize (⟨(Lib.itoa (b:Int)).toArray⟩:ByteArray)=tb at *;go_enter Tryz.func223,Tryz.ntmps223
 go_wp2_with fail
 refine H.out.mono ?_;rintro e w1 ⟨rfl,hb1⟩;go_wp2_with fail
 go_ret2
 exact ⟨rfl,hb1⟩
theorem zD (a b:Nat) (ha:kg a=true) (hb:kg b=true) (w:World) (ht:gJ.Pow w) :
  Calls Tryz.prog 195 #[Z I 0,dA (a:Int),dA (b:Int)] w (fun e w'=>e= ah (wS (a+b:Nat))∧Below w.heap.size w w'):=by
 have sa:=jB ha;have sb:=jB hb
 have sr:sz 1000000000 (a+b)≤1000:=by
  have h1:=kC (B:=1000000000) zo a b;have h2:=uK (B:=1000000000) zo a b;omega
 have KO:=zh (fun W=>Bb a b (dZ.1 ha) (dZ.1 hb) W);have Vt:=zh (fun v u W hv hu=>xA v u (a:Int) (b:Int) W hv hu (by rw [Int.natAbs_natCast];omega) (by rw [Int.natAbs_natCast];omega));have Fj:=zh (fun v W h hq=>iG v (a+b:Nat) W h (by rw [Int.natAbs_natCast];omega) hq);have HP:=zh ht;clear sa sb sr ha hb ht;have e:(a:Int)+(b:Int)=((a+b:Nat):Int):=by simp
 rw [e] at Vt;have g0:decide ((a:Int)<0)=false:=by simp
 have g1:decide ((b:Int)<0)=false:=by simp
 have IA:Hid (∀ W p l c,bC W (aj p l c) a→dN W (au #[aj p l c,ay false]) (a:Int)):=zh fun W p l c h=>⟨p,l,c,by rw [g0],by rw [Int.natAbs_natCast];exact h⟩;have IB:Hid (∀ W p l c,bC W (aj p l c) b→dN W (au #[aj p l c,ay false]) (b:Int)):=zh fun W p l c h=>⟨p,l,c,by rw [g1],by rw [Int.natAbs_natCast];exact h⟩;clear e g0 g1;obtain ⟨r,Er⟩:∃ r,a+b=r:=⟨_,rfl⟩;rw [Er] at Vt Fj ⊢;clear Er
 obtain ⟨tr,kr,Ew⟩:∃ tr kr,wS (r:Int)= aD #[O tr,Z I kr]:=by
  unfold wS dA;split
  ·exact ⟨_,_,rfl⟩
  ·exact ⟨_,_,rfl⟩
 rw [Ew] at Fj ⊢;clear Ew;unfold dA at KO ⊢;generalize (⟨(Lib.itoa (a:Int)).toArray⟩:ByteArray)=ta at *;generalize (⟨(Lib.itoa (b:Int)).toArray⟩:ByteArray)=tb at *;go_enter Tryz.func195,Tryz.ntmps195
 go_wp2_with fail
 refine (KO.out _).mono ?_;rintro e w1 ⟨p1,l1,c1,p2,l2,c2,rfl,hb1,hx,hy⟩;have HX:=zh hx;have HY:=zh hy;have HB1:=zh hb1;clear hx hy hb1;go_wp2_with fail
 obtain ⟨wx,EW,hz,X1,X2,X3⟩:=Pf w1 #[aj p1 l1 c1,ay false] 177 #[aj p2 l2 c2,ay false] 177 #[.func (.func 248) #[] #[],.func (.func 249) #[] #[],.func (.func 250) #[] #[],.func (.func 251) #[] #[]] 294;rw [EW];clear EW;replace HX:=zh (HX.out.later hz);replace HY:=zh (HY.out.later hz);have HB2:=zh (Bt HB1.out hz);clear hz HB1;obtain ⟨bx,eb⟩:∃ y,w1.heap.size=y:=⟨_,rfl⟩;rw [eb] at X1 X2 X3 ⊢;have zq:=X1.out.cell;have zm:=X1.out.lt;have Ld:=X2.out.cell;have Lb:=X2.out.lt;have cX3:=X3.out.cell;have lX3:=X3.out.lt;refine aT [(.pure,0),(.pure,1),(.pure,2),(.read,3),(.read,4),(.read,5),(.ext,6),(.ext,7),(.pure,8),(.pure,9),(.fin,10),(.fin,11)] zk zk zR zP ?_;refine zV ?_;refine aW rfl rfl (fun we hbe J hJ=>?_);go_simp;have h1:Below wx.heap.size wx we:=aN;refine (Vt.out _ _ _ (IA.out _ _ _ _ (HX.out.later h1)) (IB.out _ _ _ _ (HY.out.later h1))).mono ?_
 rintro e w2 ⟨v,rfl,hb2,hv⟩;obtain ⟨p3,l3,c3,rfl,TR⟩:=id hv;have HI:=zh hv;generalize decide ((r:Int)<0)=br at *;refine hJ _ _ hb2 ?_;clear hJ J;have h2:=Bt h1 hb2;clear hv h1 hbe hb2 TR;refine zV ?_;refine aW rfl rfl (fun we hbe J hJ=>?_);go_simp;have h5:Below w2.heap.size w2 we:=aN;refine (Fj.out _ _ (HI.out.later h5) (HP.out.later (Bt HB2.out (Bt h2 h5)))).mono ?_;rintro e w4 ⟨rfl,hb4⟩;refine hJ _ _ hb4 ?_;clear hJ J;have h6:=Bt h2 (Bt h5 hb4);clear hb4 h5 h2 hbe;refine zV ?_;refine dG [_,_] rfl (fun wf hbf=>?_);have hw:Below w.heap.size w wf:=Bt HB2.out (Bt h6 aN);go_wp2_with fail
 go_ret2
 exact ⟨rfl,hw⟩
theorem zl (a b:Nat) (ha:kg a=true) (hb:kg b=true) (w:World) (ht:gJ.Pow w) :
  Calls Tryz.prog 152 #[dA (a:Int),dA (b:Int)] w (fun e w'=>e= ah (wS (a+b:Nat))∧Below w.heap.size w w'):=by
 have H:=zh (zD a b ha hb w ht)
 obtain ⟨tr,kr,Ew⟩:∃ tr kr,wS (a+b:Nat)= aD #[O tr,Z I kr]:=by
  unfold wS dA;split
  ·exact ⟨_,_,rfl⟩
  ·exact ⟨_,_,rfl⟩
 rw [Ew] at H ⊢;clear Ew ha hb ht;unfold dA at *;generalize (⟨(Lib.itoa (a:Int)).toArray⟩:ByteArray)=ta at *;generalize (⟨(Lib.itoa (b:Int)).toArray⟩:ByteArray)=tb at *;go_enter Tryz.func152,Tryz.ntmps152
 go_wp2_with fail
 refine H.out.mono ?_;rintro e w1 ⟨rfl,hb1⟩;go_wp2_with fail
 go_ret2
 exact ⟨rfl,hb1⟩
theorem yY (a b:Nat) (ha:kg a=true) (hb:kg b=true) (b0:0<b) (w:World) (ht:gJ.Pow w) :
  Calls Tryz.prog 225 #[dA (a:Int),dA (b:Int)] w (fun e w'=>e= ah (aD #[dA (a / b:Nat),dA (a%b:Nat),Z I 0])∧Below w.heap.size w w'):=by
 have sa:=jB ha;have q1:kg (a / b)=true:=nQ ha (Nat.div_le_self _ _);have q2:kg (a%b)=true:=nQ ha (Nat.mod_le _ _);have KO:=zh (fun W=>Bb a b (dZ.1 ha) (dZ.1 hb) W);have G7:=zh (fun x y W hx hy=>fO x y a b W hx hy b0 zo);have HW1:=zh (fun v W h hq=>iG v (a / b:Nat) W h (by rw [Int.natAbs_natCast];exact aB (jB q1) zo) hq);have HW2:=zh (fun v W h hq=>iG v (a%b:Nat) W h (by rw [Int.natAbs_natCast];exact aB (jB q2) zo) hq);rw [pX q1] at HW1;rw [pX q2] at HW2;have HP:=zh ht;have d0:decide (b=0)=false:=by simp;omega
 clear sa q1 q2 ha hb ht;obtain ⟨q,Eq⟩:∃ q,a / b=q:=⟨_,rfl⟩;obtain ⟨r,Er⟩:∃ r,a%b=r:=⟨_,rfl⟩;rw [Eq] at HW1;rw [Er] at HW2;have ah9:Hid (∀ x y W,bC W x a→bC W y b→Calls Tryz.prog 253 #[x,y] W (kY W q r)):=zh (by rw [← Eq,← Er];exact G7.out);rw [Eq,Er];clear G7 Eq Er b0;unfold dA at *;generalize (⟨(Lib.itoa (a:Int)).toArray⟩:ByteArray)=ta at *;generalize (⟨(Lib.itoa (b:Int)).toArray⟩:ByteArray)=tb at *;generalize (⟨(Lib.itoa (q:Int)).toArray⟩:ByteArray)=tq at *;generalize (⟨(Lib.itoa (r:Int)).toArray⟩:ByteArray)=tr at *;go_enter Tryz.func225,Tryz.ntmps225
 go_wp2_with fail
 refine (KO.out _).mono ?_;rintro e w1 ⟨p1,l1,c1,p2,l2,c2,rfl,hb1,hx,hy⟩;have HX:=zh hx;have HY:=zh hy;have HB1:=zh hb1;clear hx hy hb1
 go_upto_region 2 with fail
 obtain ⟨wx,EW,hz,X1,X2⟩:=Sz w1 #[aj p1 l1 c1,ay false] 177 #[aj p2 l2 c2,ay false] 177;rw [EW];clear EW;replace HX:=zh (HX.out.later hz);replace HY:=zh (HY.out.later hz);have HB2:=zh (Bt HB1.out hz);clear hz HB1;obtain ⟨bx,eb⟩:∃ y,w1.heap.size=y:=⟨_,rfl⟩;rw [eb] at X1 X2 ⊢;obtain ⟨zq,zm⟩:=X1.cl;obtain ⟨Ld,Lb⟩:=X2.cl;go_wp2_with fail
 refine (gL _ b _ HY.out).mono ?_;rintro e w2 ⟨rfl,rfl⟩;rw [d0];go_wp2_with fail
 refine (ah9.out _ _ _ HX.out HY.out).mono ?_;rintro e w3 ⟨v3,v4,rfl,hb3,hv3,hv4⟩;obtain ⟨p3,l3,c3,rfl⟩:=hv3.slice;obtain ⟨p4,l4,c4,rfl⟩:=hv4.slice;have HQ:=zh hv3;have HR:=zh hv4;have HB3:=zh (Bt HB2.out hb3);replace X1:=X1.bl hb3;replace X2:=X2.bl hb3;clear hv3 hv4 hb3 HX HY HB2 zq zm Ld Lb;obtain ⟨zq,zm⟩:=X1.cl;obtain ⟨Ld,Lb⟩:=X2.cl;go_wp2_with fail
 refine (dU _ q false _ HQ.out).mono ?_;rintro e w4 ⟨v,rfl,hb4,hv⟩;obtain ⟨p5,l5,c5,rfl,hm5⟩:=id hv;have HI:=zh (hv.cast (show iM q false=(q:Int) from rfl));have g3:decide (iM q false<0)=false:=by unfold iM;simp
 rw [g3] at HI ⊢;have Vv:=zh (Bt HB3.out hb4);replace HR:=zh (HR.out.later hb4);clear hv hm5 hb4 HB3 g3 zq zm Ld Lb;go_wp2_with fail
 refine (HW1.out _ _ HI.out (HP.out.later Vv.out)).mono ?_;rintro e w5 ⟨rfl,hb5⟩;have Ww:=zh (Bt Vv.out hb5);replace HR:=zh (HR.out.later hb5);clear hb5 Vv HI;go_wp2_with fail
 refine (dU _ r false _ HR.out).mono ?_;rintro e w6 ⟨v,rfl,hb6,hv⟩;obtain ⟨p6,l6,c6,rfl,hm6⟩:=id hv;have HI:=zh (hv.cast (show iM r false=(r:Int) from rfl));have g3:decide (iM r false<0)=false:=by unfold iM;simp
 rw [g3] at HI ⊢;have OX:=zh (Bt Ww.out hb6);clear hv hm6 hb6 Ww g3;go_wp2_with fail
 refine (HW2.out _ _ HI.out (HP.out.later OX.out)).mono ?_;rintro e w7 ⟨rfl,og⟩;have hw:=Bt OX.out og;go_wp2_with fail
 go_ret3
 exact ⟨rfl,hw⟩
end Go.Proofs.whole
namespace Go.Proofs.power
open Go Go.RowKit Go.SW Go.Num Go.Mem Go.Proofs Go.Dec Go.gW Go.Proofs.whole
theorem IU {a b:Nat}:((⟨(Lib.itoa (a:Int)).toArray⟩:ByteArray).toList == (⟨(Lib.itoa (b:Int)).toArray⟩:ByteArray).toList)=decide (a=b):=by
 rw [ByteArray.toList_eq,ByteArray.toList_eq]
 show (Lib.itoa (a:Int) == Lib.itoa (b:Int))=_
 by_cases h:a=b
 ·subst h;simp
 ·rw [decide_eq_false h];refine beq_eq_false_iff_ne.2 fun e=>h ?_;have:=Dp e;omega
theorem sQ (a k:Nat) (ha:kg a=true) (hk:1≤k) (k12:k≤12) (w:World) (ht:gJ.Pow w) :
  Calls Tryz.prog 109 #[dA (a:Int),Z I (k:Int)] w (fun e w'=>e= ah (aD #[dA (eH k a:Nat),ay (decide (eH k a^k=a)),Z I 0])∧Below w.heap.size w w'):=by
 have hle:=(kS hk a).1;have hro:kg (eH k a)=true:=nQ ha (mX hk);have HR:=zh (fun W hp=>BN a k ha hk k12 W hp);have GU:=zh (fun W hp=>GL (eH k a) k hro zo W hp);rw [pX (nQ ha hle)] at GU;have he:((⟨(Lib.itoa ((eH k a^k:Nat):Int)).toArray⟩:ByteArray).toList == (⟨(Lib.itoa (a:Int)).toArray⟩:ByteArray).toList)=decide (eH k a^k=a):=IU;have HP:=zh ht;clear hle hro ha ht;generalize decide (eH k a^k=a)=ex at *;generalize eH k a^k=rp at *;generalize eH k a=r at *;unfold dA at *;generalize (⟨(Lib.itoa (a:Int)).toArray⟩:ByteArray)=ta at *;generalize (⟨(Lib.itoa (rp:Int)).toArray⟩:ByteArray)=tp at *;generalize (⟨(Lib.itoa (r:Int)).toArray⟩:ByteArray)=tr at *;go_enter Tryz.func109,Tryz.ntmps109
 go_wp2_with fail
 refine (HR.out _ HP.out).mono ?_;rintro e w1 ⟨rfl,hb1⟩;have HB1:=zh hb1;clear hb1;go_wp2_with fail
 refine (GU.out _ (HP.out.later HB1.out)).mono ?_;rintro e w2 ⟨rfl,hb2⟩;have hw:=Bt HB1.out hb2;go_wp2_with fail
 go_ret3
 exact ⟨by rw [← he];rfl,hw⟩
theorem Dm (c:Nat):Lib.itoa ((10^c:Nat):Int)=49::Lib.repeatL [48] c:=by
 have h:=wM c 1 0 zo (Nat.pow_pos zo);rw [fP,eO,gM (u:=1) zo,xQ] at h;have hr:=Lib.repeatL_replicate 48 1 c;rw [Nat.mul_one] at hr;rw [show ([48]:List UInt8)=bD 1 48 from rfl,hr];exact h
theorem oP (c:Nat) (hc:c≤1000) (w:World) :
  Calls Tryz.prog 224 #[Z I (c:Int)] w (fun e w'=>e= ah (dA (10^c:Nat))∧Below w.heap.size w w'):=by
 have H:=zh (fun W=>Tryz.strings_Repeat ⟨#[48]⟩ c W zo (by rw [show (⟨#[48]⟩:ByteArray).size=1 from rfl];omega))
 have e:(⟨(Lib.itoa ((10^c:Nat):Int)).toArray⟩:ByteArray)=(⟨#[49]⟩:ByteArray)++⟨(Lib.repeatL [48] c).toArray⟩:=by
  rw [Dm];apply ByteArray.ext
  simp
 unfold dA;rw [e];clear e
 have hs:(⟨(Lib.repeatL [48] c).toArray⟩:ByteArray).size≤1000:=by
  show (Lib.repeatL [48] c).length≤1000
  rw [Lib.repeatL_length];simp
  omega
 generalize (⟨(Lib.repeatL [48] c).toArray⟩:ByteArray)=t at *;go_enter Tryz.func224,Tryz.ntmps224
 go_wp2_with fail
 refine (H.out _).mono ?_;rintro e w1 ⟨rfl,hb1⟩;go_wp2_with fail
 go_ret
 exact ⟨rfl,hb1⟩
def uW (n:Nat) (up:Bool):Int × Int:=if n≤1000000000000000000 then ((n:Int)+(if up then 1 else 0),0) else (0,6)
theorem rY (n:Nat) (up:Bool) (hn:kg n=true) (w:World) (he:Er w) :
  Calls Tryz.prog 110 #[dA (n:Int),ay up] w (fun e w'=>e= ah (aD #[Z I (uW n up).1,Z I (uW n up).2])∧Below w.heap.size w w'):=by
 have H:=zh (fun W h=>Vn n hn W h);have HE:=zh he;clear hn he;unfold dA TM at *;generalize (⟨(Lib.itoa (n:Int)).toArray⟩:ByteArray)=t at *;unfold uW
 by_cases h1:n<9223372036854775808
 ·simp only [if_pos h1] at H
  by_cases h2:n≤1000000000000000000
  ·have g:decide ((1000000000000000000:Int)<(n:Int))=false:=by simp;omega
   simp only [if_pos h2];cases up
   all_goals
    go_enter Tryz.func110,Tryz.ntmps110
    go_wp2_with fail
    refine (H.out _ HE.out).mono ?_;rintro e w1 ⟨rfl,hb1⟩;go_wp2_with fail
    go_ret2
    exact ⟨by simp,hb1⟩
  ·have g:decide ((1000000000000000000:Int)<(n:Int))=true:=by simp;omega
   simp only [if_neg h2];go_enter Tryz.func110,Tryz.ntmps110
   go_wp2_with fail
   refine (H.out _ HE.out).mono ?_;rintro e w1 ⟨rfl,hb1⟩;go_wp2_with fail
   go_ret2
   exact ⟨rfl,hb1⟩
 ·simp only [if_neg h1] at H;have h2:¬ n≤1000000000000000000:=by omega
  simp only [if_neg h2];go_enter Tryz.func110,Tryz.ntmps110
  go_wp2_with fail
  refine (H.out _ HE.out).mono ?_;rintro e w1 ⟨rfl,hb1⟩;go_wp2_with fail
  go_ret2
  exact ⟨rfl,hb1⟩
end Go.Proofs.power
