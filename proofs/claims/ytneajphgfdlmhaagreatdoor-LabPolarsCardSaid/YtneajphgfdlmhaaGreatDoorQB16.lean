/- Lemmas for the proof. No condition. -/
import Derived.Test.YtneajphgfdlmhaaGreatDoorQB15
import Derived.Laws.EntriesVeiled
set_option linter.unusedVariables false
set_option linter.unusedSimpArgs false
set_option maxRecDepth 100000
set_option maxHeartbeats 16000000
open Go.Ending renaming returned → aj
open Go.IntKind renaming i64 → I
open Go.Value renaming agg → au, bool → ak, int → Z, pointer → aB, slice → ah, string → O, tuple → aG
open List renaming replicate → bM
open Nat renaming add_zero → fJ, le_trans → ay, lt_of_le_of_lt → gN, one_mul → gQ
namespace Go.Mem
open Go Go.RowKit
section
variable {P:Program} {fn:Func} {R:Ending→World→Prop} {w:World} {tmps:Array Value}
theorem I9 {p q u:Tmp} {ty Aq:TypeId} (h:fn.results=#[.cell p ty,.cell q Aq,.tmp u]) :
  (results fn tmps).run P w=((asAddr (tmps.getD p undef)).run P w).andThen fun a w₁=>((loadVar ty a).run P w₁).andThen fun v w₂=>((asAddr (tmps.getD q undef)).run P w₂).andThen fun a' w₃=>((loadVar Aq a').run P w₃).andThen fun v' w₄=>.ok (aG #[v,v',tmps.getD u undef]) w₄:=by
 simp only [results,h];simp [Sem.run_bind,Result.andThen]
theorem Wy {p q u:Tmp} {ty Aq t t2:TypeId} {g g2:Nat} {cs cs2:Array Value} {d d2:TypeDesc} (h:fn.results=#[.cell p ty,.cell q Aq,.tmp u])
  (hp:tmps.getD p undef= aB (some ⟨g,0,none⟩)) (hg:aA w g cs t) (hu:P.underlying ty=some d) (hd:(match d with| .struct _| .array _ _=>true| _=>false)=true) (hi:(P.info? ty).map (·.size)=some cs.size)
  (hp2:tmps.getD q undef= aB (some ⟨g2,0,none⟩)) (hg2:aA w g2 cs2 t2) (hu2:P.underlying Aq=some d2) (hd2:(match d2 with| .struct _| .array _ _=>true| _=>false)=true) (hi2:(P.info? Aq).map (·.size)=some cs2.size)
  (k:R (aj (aG #[au cs,au cs2,tmps.getD u undef])) w):bodyPost P fn R .ret { tmps:=tmps,defers:=[] } w:=by
 have e:(results fn tmps).run P w= .ok (aG #[au cs,au cs2,tmps.getD u undef]) w:=by
  rw [I9 h,hp];simp only [asAddr,Sem.run_pure,Result.andThen_ok];rw [run_loadVar_row w g t ty cs (0,0) d hg hu hd hi];simp only [Result.andThen_ok];rw [hp2];simp only [asAddr,Sem.run_pure,Result.andThen_ok];rw [run_loadVar_row w g2 t2 Aq cs2 (0,0) d2 hg2 hu2 hd2 hi2];rfl
 refine bodyPost_ret e rfl k
end
end Go.Mem
namespace Go.Proofs.whole
open Go Go.RowKit Go.SW Go.Num Go.Mem Go.Proofs Go.Dec Go.gD
theorem Gz (a b:Nat) (ha:(Lib.decDigits a).length≤600) (hb:(Lib.decDigits b).length≤600) (w:World) :
  Calls Tryz.prog 307 #[dW (a:Int),dW (b:Int)] w (fun e w'=>∃ p1 l1 c1 p2 l2 c2,e= aj (aG #[au #[ah p1 l1 c1,ak false],au #[ah p2 l2 c2,ak false],Z I 0])∧Below w.heap.size w w'∧bW w' (ah p1 l1 c1) a∧bW w' (ah p2 l2 c2) b):=by
 have RA:Hid (∀ W,Calls Tryz.prog 254 #[dW (a:Int)] W (fun e w'=>∃ p l c,e= aj (aG #[au #[ah p l c,ak false],ak true])∧Below W.heap.size W w'∧bW w' (ah p l c) a)):=zh fun W=>(xK (a:Int) (by rw [Int.natAbs_natCast];exact ha) W).mono fun e w' ⟨v,h1,h2,p,l,c,h3,h4⟩=>by
  rw [Int.natAbs_natCast] at h4;have g0:decide ((a:Int)<0)=false:=by simp
  rw [g0] at h3;exact ⟨p,l,c,by rw [h1,h3],h2,h4⟩
 have RB:Hid (∀ W,Calls Tryz.prog 254 #[dW (b:Int)] W (fun e w'=>∃ p l c,e= aj (aG #[au #[ah p l c,ak false],ak true])∧Below W.heap.size W w'∧bW w' (ah p l c) b)):=zh fun W=>(xK (b:Int) (by rw [Int.natAbs_natCast];exact hb) W).mono fun e w' ⟨v,h1,h2,p,l,c,h3,h4⟩=>by
  rw [Int.natAbs_natCast] at h4;have g0:decide ((b:Int)<0)=false:=by simp
  rw [g0] at h3;exact ⟨p,l,c,by rw [h1,h3],h2,h4⟩
 clear ha hb;unfold dW at *;generalize (⟨(Lib.itoa (a:Int)).toArray⟩:ByteArray)=ta at *;generalize (⟨(Lib.itoa (b:Int)).toArray⟩:ByteArray)=tb at *;go_enter Tryz.func307,Tryz.ntmps307
 go_wp2_with fail
 obtain ⟨lZ,EW,hz,X1,X2⟩:=Dz w #[ah none 0 0,ak false] 257 #[ah none 0 0,ak false] 257;rw [EW];have hk2:=Bt (Below.refl _ _) hz;clear EW hz;refine (RA.out _).mono ?_;rintro e oo ⟨p1,l1,c1,rfl,hb3,hm⟩;replace X1:=X1.bl hb3;replace X2:=X2.bl hb3;have hk5:=Bt hk2 hb3;clear hk2;have NX:=zh hm;clear hb3 hm;obtain ⟨kZ,kY,ni⟩:=X1.clf;go_wp2_with fail
 clear kZ kY ni;have hz:Below w.heap.size w ((oo.setCell ⟨w.heap.size,0,none⟩ (ah p1 l1 c1)).setCell ⟨w.heap.size,1,none⟩ (ak false)):=aF;obtain ⟨wq6,EW⟩:∃ y,((oo.setCell ⟨w.heap.size,0,none⟩ (ah p1 l1 c1)).setCell ⟨w.heap.size,1,none⟩ (ak false))=y:=⟨_,rfl⟩;have tX1:=((X1.out.set 0 (ah p1 l1 c1)).set 1 (ak false));have tX2:=((X2.out.setOther (a:=⟨w.heap.size,0,none⟩) (ah p1 l1 c1) (by first|assumption|(simp;done)|(simp;omega))).setOther (a:=⟨w.heap.size,1,none⟩) (ak false) (by first|assumption|(simp;done)|(simp;omega)));have tNX:=((NX.out.setOther X1.out zd 0 (ah p1 l1 c1)).setOther (X1.out.set 0 (ah p1 l1 c1)) zd 1 (ak false));rw [EW] at tX1;replace X1:Hid (aA wq6 (w.heap.size) #[ah p1 l1 c1,ak false] 257):=zh tX1;clear tX1;rw [EW] at tX2;replace X2:Hid (aA wq6 (w.heap.size+1) #[ah none 0 0,ak false] 257):=zh tX2;clear tX2
 rw [EW] at tNX;replace NX:=zh tNX;clear tNX;rw [EW] at hz ⊢;clear EW;clear hk5;have hk6:=hz;clear hz;refine (RB.out _).mono ?_;rintro e sJ ⟨p2,l2,c2,rfl,jP,hm⟩;replace X1:=X1.bl jP;replace X2:=X2.bl jP;replace NX:=zh (NX.out.later jP);have hk9:=Bt hk6 jP;clear hk6;have NY:=zh hm;clear jP hm;obtain ⟨sP,sO,wK⟩:=X2.clf;have HK:=zh hk9;obtain ⟨wl,Ewl⟩:∃ y,y=sJ:=⟨_,rfl⟩;subst Ewl;have c1':=X1.out.cell;have l1':=X1.out.lt;have f1':=X1.out.free;have c2':=X2.out.cell;have l2':=X2.out.lt;have f2':=X2.out.free;go_wp2_with fail
 go_region
 go_wp2_with fail
 have hw:=HK.out;have hx1:=X1.out;have hx2:=X2.out;refine Wy rfl rfl bf Tryz.underlying257 rfl zk rfl bf Tryz.underlying257 rfl zk ?_;exact ⟨_,_,_,_,_,_,rfl,aF,aW,aW⟩
end Go.Proofs.whole
namespace Go.Proofs.whole
open Go Go.RowKit Go.SW Go.Num Go.Mem Go.Proofs Go.Dec
theorem wD (v u:Value) (z y:Int) (w:World) (h:fD w v z) (h2:fD w u y) (kz:sz 1000000000 z.natAbs≤549755813888) (ky:sz 1000000000 y.natAbs≤549755813888) :
  Calls Tryz.prog 310 #[v,u] w (fun e w'=>∃ v,e= aj v∧Below w.heap.size w w'∧fD w' v (z*y)):=by
 obtain ⟨Jk,lH,J9,rfl,H⟩:=h;replace H:=zh H;obtain ⟨aM7,lH2,aR5,rfl,H2⟩:=h2;replace H2:=zh H2;have KZ:=zh kz;have KY:=zh ky;clear kz ky;go_enter Tryz.func310,Tryz.ntmps310
 go_wp2_with fail
 refine aJ [(.pure,0),(.read,1),(.pure,2),(.read,3),(.pure,5),(.read,6),(.pure,7),(.read,8),(.pure,9),(.ext,4),(.ext,10),(.fin,11)] zk zk zR zP ?_;refine zV ?_;refine aS rfl rfl (fun w1 hb1 J hJ=>?_);go_simp;have BR:=aA.later (aA.drew (aA.at2 _ _ _ _ _)) hb1;have dV:=BR.cell;have dU:=BR.free;refine (jQ _ _ z.natAbs y.natAbs _ aW aW (ay KZ.out zo) (ay KY.out zo)).mono ?_;rintro e v1 ⟨v,rfl,hc1,hv⟩;obtain ⟨ZL,lHS,ae4,rfl⟩:=hv.slice;have HS:=zh hv;clear hv;replace BR:=aA.later (BR) hc1;replace dV:=BR.cell;replace dU:=BR.free;refine hJ _ _ hc1 ?_;clear hJ J;refine aS rfl rfl (fun w2 hb2 J hJ=>?_);go_simp;replace BR:=aA.later (BR) hb2;replace dV:=BR.cell;replace dU:=BR.free;refine (fO _ (z.natAbs*y.natAbs) _ _ aW).mono ?_;rintro e v2 ⟨v,rfl,hc2,hv⟩;obtain ⟨ZK,lHT,ae3,rfl,HT⟩:=hv;replace HT:=zh HT
 replace BR:=aA.later (BR) hc2;replace dV:=BR.cell;replace dU:=BR.free;refine hJ _ _ hc2 ?_;clear hJ J;refine dA [_] rfl (fun w5 hb5=>?_);replace BR:=aA.later (BR) hb5;replace dV:=BR.cell;replace dU:=BR.free;go_wp2_with fail
 refine gF rfl rfl bf Tryz.underlying257 rfl zk ?_;exact ⟨_,rfl,aF,(fD.gG aW).cast (xE z y)⟩
end Go.Proofs.whole
namespace Go.Proofs.whole
open Go Go.RowKit Go.SW Go.Num Go.Mem Go.Proofs Go.Dec Go.gD
theorem DX (a b:Nat) (ha:kI a=true) (hb:kI b=true) (w:World) (ht:jH.Pow w) :
  Calls Tryz.prog 277 #[Z I 2,dW (a:Int),dW (b:Int)] w (fun e w'=>e= aj (AV (a*b:Nat))∧Below w.heap.size w w'):=by
 have sa:=kH ha;have sb:=kH hb
 have sr:sz 1000000000 (a*b)≤1000:=by
  have h1:=kR (B:=1000000000) zo a b;have h2:=vU (B:=1000000000) zo a b;omega
 have Rz:=zh (fun W=>Gz a b (fK.1 ha) (fK.1 hb) W);have HOP:=zh (fun v u W hv hu=>wD v u (a:Int) (b:Int) W hv hu (by rw [Int.natAbs_natCast];omega) (by rw [Int.natAbs_natCast];omega));have K5:=zh (fun v W h hq=>kT v (a*b:Nat) W h (by rw [Int.natAbs_natCast];omega) hq);have HP:=zh ht;clear sa sb sr ha hb ht;have e:(a:Int)*(b:Int)=((a*b:Nat):Int):=by simp
 rw [e] at HOP;have g0:decide ((a:Int)<0)=false:=by simp
 have g1:decide ((b:Int)<0)=false:=by simp
 have IA:Hid (∀ W p l c,bW W (ah p l c) a→fD W (au #[ah p l c,ak false]) (a:Int)):=zh fun W p l c h=>⟨p,l,c,by rw [g0],by rw [Int.natAbs_natCast];exact h⟩;have IB:Hid (∀ W p l c,bW W (ah p l c) b→fD W (au #[ah p l c,ak false]) (b:Int)):=zh fun W p l c h=>⟨p,l,c,by rw [g1],by rw [Int.natAbs_natCast];exact h⟩;clear e g0 g1;obtain ⟨r,Er⟩:∃ r,a*b=r:=⟨_,rfl⟩;rw [Er] at HOP K5 ⊢;clear Er
 obtain ⟨tr,kr,Ew⟩:∃ tr kr,AV (r:Int)= aG #[O tr,Z I kr]:=by
  unfold AV dW;split
  ·exact ⟨_,_,rfl⟩
  ·exact ⟨_,_,rfl⟩
 rw [Ew] at K5 ⊢;clear Ew;unfold dW at Rz ⊢;generalize (⟨(Lib.itoa (a:Int)).toArray⟩:ByteArray)=ta at *;generalize (⟨(Lib.itoa (b:Int)).toArray⟩:ByteArray)=tb at *;go_enter Tryz.func277,Tryz.ntmps277
 go_wp2_with fail
 refine (Rz.out _).mono ?_;rintro e w1 ⟨p1,l1,c1,p2,l2,c2,rfl,hb1,hx,hy⟩;have HX:=zh hx;have HY:=zh hy;have HB1:=zh hb1;clear hx hy hb1;go_wp2_with fail
 obtain ⟨wx,EW,hz,X1,X2,X3⟩:=MW w1 #[ah p1 l1 c1,ak false] 257 #[ah p2 l2 c2,ak false] 257 #[.func (.func 308) #[] #[],.func (.func 309) #[] #[],.func (.func 310) #[] #[],.func (.func 311) #[] #[]] 308;rw [EW];clear EW;replace HX:=zh (HX.out.later hz);replace HY:=zh (HY.out.later hz);have HB2:=zh (Bt HB1.out hz);clear hz HB1;obtain ⟨bx,eb⟩:∃ y,w1.heap.size=y:=⟨_,rfl⟩;rw [eb] at X1 X2 X3 ⊢;have kZ:=X1.out.cell;have kY:=X1.out.lt;have sP:=X2.out.cell;have sO:=X2.out.lt;have cX3:=X3.out.cell;have Z7:=X3.out.lt;refine aJ [(.pure,0),(.pure,1),(.pure,2),(.read,3),(.read,4),(.read,5),(.ext,6),(.ext,7),(.pure,8),(.pure,9),(.fin,10),(.fin,11)] zk zk zR zP ?_;refine zV ?_;refine aS rfl rfl (fun we hbe J hJ=>?_);go_simp;have h1:Below wx.heap.size wx we:=aF;refine (HOP.out _ _ _ (IA.out _ _ _ _ (HX.out.later h1)) (IB.out _ _ _ _ (HY.out.later h1))).mono ?_
 rintro e w2 ⟨v,rfl,hb2,hv⟩;obtain ⟨p3,l3,c3,rfl,Um⟩:=id hv;have HI:=zh hv;generalize decide ((r:Int)<0)=br at *;refine hJ _ _ hb2 ?_;clear hJ J;have h2:=Bt h1 hb2;clear hv h1 hbe hb2 Um;refine zV ?_;refine aS rfl rfl (fun we hbe J hJ=>?_);go_simp;have h5:Below w2.heap.size w2 we:=aF;refine (K5.out _ _ (HI.out.later h5) (HP.out.later (Bt HB2.out (Bt h2 h5)))).mono ?_;rintro e w4 ⟨rfl,hb4⟩;refine hJ _ _ hb4 ?_;clear hJ J;have h6:=Bt h2 (Bt h5 hb4);clear hb4 h5 h2 hbe;refine zV ?_;refine dA [_,_] rfl (fun wf hbf=>?_);have hw:Below w.heap.size w wf:=Bt HB2.out (Bt h6 aF);go_wp2_with fail
 go_ret2
 exact ⟨rfl,hw⟩
theorem Dr (a b:Nat) (ha:kI a=true) (hb:kI b=true) (w:World) (ht:jH.Pow w) :
  Calls Tryz.prog 289 #[dW (a:Int),dW (b:Int)] w (fun e w'=>e= aj (AV (a*b:Nat))∧Below w.heap.size w w'):=by
 have H:=zh (DX a b ha hb w ht)
 obtain ⟨tr,kr,Ew⟩:∃ tr kr,AV (a*b:Nat)= aG #[O tr,Z I kr]:=by
  unfold AV dW;split
  ·exact ⟨_,_,rfl⟩
  ·exact ⟨_,_,rfl⟩
 rw [Ew] at H ⊢;clear Ew ha hb ht;unfold dW at *;generalize (⟨(Lib.itoa (a:Int)).toArray⟩:ByteArray)=ta at *;generalize (⟨(Lib.itoa (b:Int)).toArray⟩:ByteArray)=tb at *;go_enter Tryz.func289,Tryz.ntmps289
 go_wp2_with fail
 refine H.out.mono ?_;rintro e w1 ⟨rfl,hb1⟩;go_wp2_with fail
 go_ret2
 exact ⟨rfl,hb1⟩
theorem DY (a b:Nat) (ha:kI a=true) (hb:kI b=true) (w:World) (ht:jH.Pow w) :
  Calls Tryz.prog 277 #[Z I 0,dW (a:Int),dW (b:Int)] w (fun e w'=>e= aj (AV (a+b:Nat))∧Below w.heap.size w w'):=by
 have sa:=kH ha;have sb:=kH hb
 have sr:sz 1000000000 (a+b)≤1000:=by
  have h1:=kR (B:=1000000000) zo a b;have h2:=vU (B:=1000000000) zo a b;omega
 have Rz:=zh (fun W=>Gz a b (fK.1 ha) (fK.1 hb) W);have HOP:=zh (fun v u W hv hu=>vV v u (a:Int) (b:Int) W hv hu (by rw [Int.natAbs_natCast];omega) (by rw [Int.natAbs_natCast];omega));have K5:=zh (fun v W h hq=>kT v (a+b:Nat) W h (by rw [Int.natAbs_natCast];omega) hq);have HP:=zh ht;clear sa sb sr ha hb ht;have e:(a:Int)+(b:Int)=((a+b:Nat):Int):=by simp
 rw [e] at HOP;have g0:decide ((a:Int)<0)=false:=by simp
 have g1:decide ((b:Int)<0)=false:=by simp
 have IA:Hid (∀ W p l c,bW W (ah p l c) a→fD W (au #[ah p l c,ak false]) (a:Int)):=zh fun W p l c h=>⟨p,l,c,by rw [g0],by rw [Int.natAbs_natCast];exact h⟩;have IB:Hid (∀ W p l c,bW W (ah p l c) b→fD W (au #[ah p l c,ak false]) (b:Int)):=zh fun W p l c h=>⟨p,l,c,by rw [g1],by rw [Int.natAbs_natCast];exact h⟩;clear e g0 g1;obtain ⟨r,Er⟩:∃ r,a+b=r:=⟨_,rfl⟩;rw [Er] at HOP K5 ⊢;clear Er
 obtain ⟨tr,kr,Ew⟩:∃ tr kr,AV (r:Int)= aG #[O tr,Z I kr]:=by
  unfold AV dW;split
  ·exact ⟨_,_,rfl⟩
  ·exact ⟨_,_,rfl⟩
 rw [Ew] at K5 ⊢;clear Ew;unfold dW at Rz ⊢;generalize (⟨(Lib.itoa (a:Int)).toArray⟩:ByteArray)=ta at *;generalize (⟨(Lib.itoa (b:Int)).toArray⟩:ByteArray)=tb at *;go_enter Tryz.func277,Tryz.ntmps277
 go_wp2_with fail
 refine (Rz.out _).mono ?_;rintro e w1 ⟨p1,l1,c1,p2,l2,c2,rfl,hb1,hx,hy⟩;have HX:=zh hx;have HY:=zh hy;have HB1:=zh hb1;clear hx hy hb1;go_wp2_with fail
 obtain ⟨wx,EW,hz,X1,X2,X3⟩:=MW w1 #[ah p1 l1 c1,ak false] 257 #[ah p2 l2 c2,ak false] 257 #[.func (.func 308) #[] #[],.func (.func 309) #[] #[],.func (.func 310) #[] #[],.func (.func 311) #[] #[]] 308;rw [EW];clear EW;replace HX:=zh (HX.out.later hz);replace HY:=zh (HY.out.later hz);have HB2:=zh (Bt HB1.out hz);clear hz HB1;obtain ⟨bx,eb⟩:∃ y,w1.heap.size=y:=⟨_,rfl⟩;rw [eb] at X1 X2 X3 ⊢;have kZ:=X1.out.cell;have kY:=X1.out.lt;have sP:=X2.out.cell;have sO:=X2.out.lt;have cX3:=X3.out.cell;have Z7:=X3.out.lt;refine aJ [(.pure,0),(.pure,1),(.pure,2),(.read,3),(.read,4),(.read,5),(.ext,6),(.ext,7),(.pure,8),(.pure,9),(.fin,10),(.fin,11)] zk zk zR zP ?_;refine zV ?_;refine aS rfl rfl (fun we hbe J hJ=>?_);go_simp;have h1:Below wx.heap.size wx we:=aF;refine (HOP.out _ _ _ (IA.out _ _ _ _ (HX.out.later h1)) (IB.out _ _ _ _ (HY.out.later h1))).mono ?_
 rintro e w2 ⟨v,rfl,hb2,hv⟩;obtain ⟨p3,l3,c3,rfl,Um⟩:=id hv;have HI:=zh hv;generalize decide ((r:Int)<0)=br at *;refine hJ _ _ hb2 ?_;clear hJ J;have h2:=Bt h1 hb2;clear hv h1 hbe hb2 Um;refine zV ?_;refine aS rfl rfl (fun we hbe J hJ=>?_);go_simp;have h5:Below w2.heap.size w2 we:=aF;refine (K5.out _ _ (HI.out.later h5) (HP.out.later (Bt HB2.out (Bt h2 h5)))).mono ?_;rintro e w4 ⟨rfl,hb4⟩;refine hJ _ _ hb4 ?_;clear hJ J;have h6:=Bt h2 (Bt h5 hb4);clear hb4 h5 h2 hbe;refine zV ?_;refine dA [_,_] rfl (fun wf hbf=>?_);have hw:Below w.heap.size w wf:=Bt HB2.out (Bt h6 aF);go_wp2_with fail
 go_ret2
 exact ⟨rfl,hw⟩
theorem zJ (a b:Nat) (ha:kI a=true) (hb:kI b=true) (w:World) (ht:jH.Pow w) :
  Calls Tryz.prog 231 #[dW (a:Int),dW (b:Int)] w (fun e w'=>e= aj (AV (a+b:Nat))∧Below w.heap.size w w'):=by
 have H:=zh (DY a b ha hb w ht)
 obtain ⟨tr,kr,Ew⟩:∃ tr kr,AV (a+b:Nat)= aG #[O tr,Z I kr]:=by
  unfold AV dW;split
  ·exact ⟨_,_,rfl⟩
  ·exact ⟨_,_,rfl⟩
 rw [Ew] at H ⊢;clear Ew ha hb ht;unfold dW at *;generalize (⟨(Lib.itoa (a:Int)).toArray⟩:ByteArray)=ta at *;generalize (⟨(Lib.itoa (b:Int)).toArray⟩:ByteArray)=tb at *;go_enter Tryz.func231,Tryz.ntmps231
 go_wp2_with fail
 refine H.out.mono ?_;rintro e w1 ⟨rfl,hb1⟩;go_wp2_with fail
 go_ret2
 exact ⟨rfl,hb1⟩
theorem sI (a b:Nat) (ha:kI a=true) (hb:kI b=true) (b0:0<b) (w:World) (ht:jH.Pow w) :
  Calls Tryz.prog 291 #[dW (a:Int),dW (b:Int)] w (fun e w'=>e= aj (aG #[dW (a / b:Nat),dW (a%b:Nat),Z I 0])∧Below w.heap.size w w'):=by
 have sa:=kH ha;have q1:kI (a / b)=true:=qB ha (Nat.div_le_self _ _);have q2:kI (a%b)=true:=qB ha (Nat.mod_le _ _);have Rz:=zh (fun W=>Gz a b (fK.1 ha) (fK.1 hb) W);have NK:=zh (fun x y W hx hy=>iw x y a b W hx hy b0 zo);have HW1:=zh (fun v W h hq=>kT v (a / b:Nat) W h (by rw [Int.natAbs_natCast];exact ay (kH q1) zo) hq);have HW2:=zh (fun v W h hq=>kT v (a%b:Nat) W h (by rw [Int.natAbs_natCast];exact ay (kH q2) zo) hq);rw [tF q1] at HW1;rw [tF q2] at HW2;have HP:=zh ht;have d0:decide (b=0)=false:=by simp;omega
 clear sa q1 q2 ha hb ht;obtain ⟨q,Eq⟩:∃ q,a / b=q:=⟨_,rfl⟩;obtain ⟨r,Er⟩:∃ r,a%b=r:=⟨_,rfl⟩;rw [Eq] at HW1;rw [Er] at HW2;have aF8:Hid (∀ x y W,bW W x a→bW W y b→Calls Tryz.prog 313 #[x,y] W (nN W q r)):=zh (by rw [← Eq,← Er];exact NK.out);rw [Eq,Er];clear NK Eq Er b0;unfold dW at *;generalize (⟨(Lib.itoa (a:Int)).toArray⟩:ByteArray)=ta at *;generalize (⟨(Lib.itoa (b:Int)).toArray⟩:ByteArray)=tb at *;generalize (⟨(Lib.itoa (q:Int)).toArray⟩:ByteArray)=tq at *;generalize (⟨(Lib.itoa (r:Int)).toArray⟩:ByteArray)=tr at *;go_enter Tryz.func291,Tryz.ntmps291
 go_wp2_with fail
 refine (Rz.out _).mono ?_;rintro e w1 ⟨p1,l1,c1,p2,l2,c2,rfl,hb1,hx,hy⟩;have HX:=zh hx;have HY:=zh hy;have HB1:=zh hb1;clear hx hy hb1
 go_upto_region 2 with fail
 obtain ⟨wx,EW,hz,X1,X2⟩:=Dz w1 #[ah p1 l1 c1,ak false] 257 #[ah p2 l2 c2,ak false] 257;rw [EW];clear EW;replace HX:=zh (HX.out.later hz);replace HY:=zh (HY.out.later hz);have HB2:=zh (Bt HB1.out hz);clear hz HB1;obtain ⟨bx,eb⟩:∃ y,w1.heap.size=y:=⟨_,rfl⟩;rw [eb] at X1 X2 ⊢;obtain ⟨kZ,kY⟩:=X1.cl;obtain ⟨sP,sO⟩:=X2.cl;go_wp2_with fail
 refine (iK _ b _ HY.out).mono ?_;rintro e w2 ⟨rfl,rfl⟩;rw [d0];go_wp2_with fail
 refine (aF8.out _ _ _ HX.out HY.out).mono ?_;rintro e w3 ⟨v3,v4,rfl,hb3,hv3,hv4⟩;obtain ⟨p3,l3,c3,rfl⟩:=hv3.slice;obtain ⟨p4,l4,c4,rfl⟩:=hv4.slice;have HQ:=zh hv3;have HR:=zh hv4;have HB3:=zh (Bt HB2.out hb3);replace X1:=X1.bl hb3;replace X2:=X2.bl hb3;clear hv3 hv4 hb3 HX HY HB2 kZ kY sP sO;obtain ⟨kZ,kY⟩:=X1.cl;obtain ⟨sP,sO⟩:=X2.cl;go_wp2_with fail
 refine (fO _ q false _ HQ.out).mono ?_;rintro e w4 ⟨v,rfl,hb4,hv⟩;obtain ⟨p5,l5,c5,rfl,hm5⟩:=id hv;have HI:=zh (hv.cast (show iV q false=(q:Int) from rfl));have g3:decide (iV q false<0)=false:=by unfold iV;simp
 rw [g3] at HI ⊢;have HB4:=zh (Bt HB3.out hb4);replace HR:=zh (HR.out.later hb4);clear hv hm5 hb4 HB3 g3 kZ kY sP sO;go_wp2_with fail
 refine (HW1.out _ _ HI.out (HP.out.later HB4.out)).mono ?_;rintro e w5 ⟨rfl,hb5⟩;have HB5:=zh (Bt HB4.out hb5);replace HR:=zh (HR.out.later hb5);clear hb5 HB4 HI;go_wp2_with fail
 refine (fO _ r false _ HR.out).mono ?_;rintro e w6 ⟨v,rfl,hb6,hv⟩;obtain ⟨p6,l6,c6,rfl,hm6⟩:=id hv;have HI:=zh (hv.cast (show iV r false=(r:Int) from rfl));have g3:decide (iV r false<0)=false:=by unfold iV;simp
 rw [g3] at HI ⊢;have Vz:=zh (Bt HB5.out hb6);clear hv hm6 hb6 HB5 g3;go_wp2_with fail
 refine (HW2.out _ _ HI.out (HP.out.later Vz.out)).mono ?_;rintro e w7 ⟨rfl,jP⟩;have hw:=Bt Vz.out jP;go_wp2_with fail
 go_ret3
 exact ⟨rfl,hw⟩
end Go.Proofs.whole
namespace Go.Proofs.power
open Go Go.RowKit Go.SW Go.Num Go.Mem Go.Proofs Go.Dec Go.gD Go.Proofs.whole
theorem OJ {a b:Nat}:((⟨(Lib.itoa (a:Int)).toArray⟩:ByteArray).toList == (⟨(Lib.itoa (b:Int)).toArray⟩:ByteArray).toList)=decide (a=b):=by
 rw [ByteArray.toList_eq,ByteArray.toList_eq]
 show (Lib.itoa (a:Int) == Lib.itoa (b:Int))=_
 by_cases h:a=b
 ·subst h;simp
 ·rw [decide_eq_false h];refine beq_eq_false_iff_ne.2 fun e=>h ?_;have:=xV e;omega
theorem xI (a k:Nat) (ha:kI a=true) (hk:1≤k) (k12:k≤12) (w:World) (ht:jH.Pow w) :
  Calls Tryz.prog 157 #[dW (a:Int),Z I (k:Int)] w (fun e w'=>e= aj (aG #[dW (fV k a:Nat),ak (decide (fV k a^k=a)),Z I 0])∧Below w.heap.size w w'):=by
 have hle:=(lK hk a).1;have hro:kI (fV k a)=true:=qB ha (pE hk);have HR:=zh (fun W hp=>Ib a k ha hk k12 W hp);have Nv:=zh (fun W hp=>wU (fV k a) k hro zo W hp);rw [tF (qB ha hle)] at Nv;have he:((⟨(Lib.itoa ((fV k a^k:Nat):Int)).toArray⟩:ByteArray).toList == (⟨(Lib.itoa (a:Int)).toArray⟩:ByteArray).toList)=decide (fV k a^k=a):=OJ;have HP:=zh ht;clear hle hro ha ht;generalize decide (fV k a^k=a)=ex at *;generalize fV k a^k=rp at *;generalize fV k a=r at *;unfold dW at *;generalize (⟨(Lib.itoa (a:Int)).toArray⟩:ByteArray)=ta at *;generalize (⟨(Lib.itoa (rp:Int)).toArray⟩:ByteArray)=tp at *;generalize (⟨(Lib.itoa (r:Int)).toArray⟩:ByteArray)=tr at *;go_enter Tryz.func157,Tryz.ntmps157
 go_wp2_with fail
 refine (HR.out _ HP.out).mono ?_;rintro e w1 ⟨rfl,hb1⟩;have HB1:=zh hb1;clear hb1;go_wp2_with fail
 refine (Nv.out _ (HP.out.later HB1.out)).mono ?_;rintro e w2 ⟨rfl,hb2⟩;have hw:=Bt HB1.out hb2;go_wp2_with fail
 go_ret3
 exact ⟨by rw [← he];rfl,hw⟩
theorem Uc (c:Nat):Lib.itoa ((10^c:Nat):Int)=49::Lib.repeatL [48] c:=by
 have h:=Bf c 1 0 zo (Nat.pow_pos zo);rw [gQ,fJ,iM (u:=1) zo,BZ] at h;have hr:=Lib.repeatL_replicate 48 1 c;rw [Nat.mul_one] at hr;rw [show ([48]:List UInt8)=bM 1 48 from rfl,hr];exact h
theorem rF (c:Nat) (hc:c≤1000) (w:World) :
  Calls Tryz.prog 290 #[Z I (c:Int)] w (fun e w'=>e= aj (dW (10^c:Nat))∧Below w.heap.size w w'):=by
 have H:=zh (fun W=>Tryz.strings_Repeat ⟨#[48]⟩ c W zo (by rw [show (⟨#[48]⟩:ByteArray).size=1 from rfl];omega))
 have e:(⟨(Lib.itoa ((10^c:Nat):Int)).toArray⟩:ByteArray)=(⟨#[49]⟩:ByteArray)++⟨(Lib.repeatL [48] c).toArray⟩:=by
  rw [Uc];apply ByteArray.ext
  simp
 unfold dW;rw [e];clear e
 have hs:(⟨(Lib.repeatL [48] c).toArray⟩:ByteArray).size≤1000:=by
  show (Lib.repeatL [48] c).length≤1000
  rw [Lib.repeatL_length];simp
  omega
 generalize (⟨(Lib.repeatL [48] c).toArray⟩:ByteArray)=t at *;go_enter Tryz.func290,Tryz.ntmps290
 go_wp2_with fail
 refine (H.out _).mono ?_;rintro e w1 ⟨rfl,hb1⟩;go_wp2_with fail
 go_ret
 exact ⟨rfl,hb1⟩
def zm (n:Nat) (up:Bool):Int × Int:=if n≤1000000000000000000 then ((n:Int)+(if up then 1 else 0),0) else (0,6)
theorem wH (n:Nat) (up:Bool) (hn:kI n=true) (w:World) (he:Er w) :
  Calls Tryz.prog 158 #[dW (n:Int),ak up] w (fun e w'=>e= aj (aG #[Z I (zm n up).1,Z I (zm n up).2])∧Below w.heap.size w w'):=by
 have H:=zh (fun W h=>ah1 n hn W h);have HE:=zh he;clear hn he;unfold dW Ep at *;generalize (⟨(Lib.itoa (n:Int)).toArray⟩:ByteArray)=t at *;unfold zm
 by_cases h1:n<9223372036854775808
 ·simp only [if_pos h1] at H
  by_cases h2:n≤1000000000000000000
  ·have g:decide ((1000000000000000000:Int)<(n:Int))=false:=by simp;omega
   simp only [if_pos h2];cases up
   all_goals
    go_enter Tryz.func158,Tryz.ntmps158
    go_wp2_with fail
    refine (H.out _ HE.out).mono ?_;rintro e w1 ⟨rfl,hb1⟩;go_wp2_with fail
    go_ret2
    exact ⟨by simp,hb1⟩
  ·have g:decide ((1000000000000000000:Int)<(n:Int))=true:=by simp;omega
   simp only [if_neg h2];go_enter Tryz.func158,Tryz.ntmps158
   go_wp2_with fail
   refine (H.out _ HE.out).mono ?_;rintro e w1 ⟨rfl,hb1⟩;go_wp2_with fail
   go_ret2
   exact ⟨rfl,hb1⟩
 ·simp only [if_neg h1] at H;have h2:¬ n≤1000000000000000000:=by omega
  simp only [if_neg h2];go_enter Tryz.func158,Tryz.ntmps158
  go_wp2_with fail
  refine (H.out _ HE.out).mono ?_;rintro e w1 ⟨rfl,hb1⟩;go_wp2_with fail
  go_ret2
  exact ⟨rfl,hb1⟩
theorem Sv {c k:Nat} (h:c<k):10^c<jZ k:=by
 unfold jZ;exact Nat.pow_lt_pow_right zo h
theorem OA {c:Nat} (h:c<600):kI (10^c)=true:=by
 unfold kI;exact decide_eq_true (Sv h)
theorem xP {n:Nat}:kI n=true↔n<10^600:=by
 unfold kI jZ;exact decide_eq_true_iff
theorem zero_eq (b:Nat):((⟨(Lib.itoa (b:Int)).toArray⟩:ByteArray).toList == [48])=decide (b=0):=by
 have:= @OJ b 0
 have e:(⟨(Lib.itoa ((0:Nat):Int)).toArray⟩:ByteArray).toList=[48]:=by
  rw [ByteArray.toList_eq]
  show Lib.itoa ((0:Nat):Int)=[48]
  decide+kernel
 rw [e] at this;exact this
theorem G9 {n p q:Nat} {up:Bool} (h:¬ yV n p q≤10^18):CY n p q up=(0,6):=by
 unfold CY;rw [if_neg h]
theorem JB {n p q:Nat} {up:Bool}:zm (yV n p q) (up&& !(Ql n p q))=CY n p q up:=by
 by_cases h:yV n p q≤10^18
 ·rw [XE h];unfold zm;rw [if_pos h]
 ·rw [G9 h];unfold zm;rw [if_neg h]
theorem ML (n p q:Nat) (up:Bool) (hn:n≤10^18) (p1:1≤p) (p36:p≤36) (q1:1≤q) (Ot:q≤12) (w:World) (ht:jH.Pow w) (he:Er w) :
  Calls Tryz.prog 253 #[au #[Z I (p:Int),Z I (q:Int)],Z I (n:Int),ak up] w (fun e w'=>e= aj (aG #[Z I (CY n p q up).1,Z I (CY n p q up).2])∧Below w.heap.size w w'):=by
 have hn0:kI n=true:=xP.2 (gN hn (by decide+kernel))
 have h63:(n:Int)≤9223372036854775807:=by
  have:(10:Nat)^18=1000000000000000000:=by decide
  omega
 have HO:=zh (fun W h=>zZ (n:Int) zo h63 W h);have Nv:=zh (fun W h=>wU n p hn0 zo W h);have HP:=zh ht;have HE:=zh he;clear ht he h63
 by_cases h1:kI (n^p)=true
 ·rw [tF h1] at Nv
  by_cases hpq:p≤q
  ·have g:decide ((p:Int)≤(q:Int))=true:=by simp;omega
   have e12:(12:Int)*((q:Int) - (p:Int))=((12*(q - p):Nat):Int):=by omega
   have h12:12*(q - p)≤132:=by omega
   have HT:=zh (fun W=>rF (12*(q - p)) zo W);have HM:=zh (fun W h=>Dr (n^p) (10^(12*(q - p))) h1 (OA zo) W h);have ea:=Jg (n:=n) hpq;rw [← ea] at HM;have ex:Ql n p q=_:=ZG hpq
   by_cases h2:kI (j5 n p q)=true
   ·rw [tF h2] at HM;have HR:=zh (fun W h=>xI (j5 n p q) q h2 q1 Ot W h);have HI:=zh (fun W h=>wH (yV n p q) (up&& !(Ql n p q)) (qB h2 (pE q1)) W h);rw [JB] at HI
    change Hid (∀ (W:World),jH.Pow W→Calls _ _ _ _ (fun e w'=>e= aj (aG #[dW ((yV n p q:Nat):Int),ak (decide (yV n p q^q=j5 n p q)),Z I 0])∧_)) at HR
    rw [← ex] at HR;clear ex ea h2 h1 hn0;obtain ⟨v,Ev⟩:∃ v,CY n p q up=v:=⟨_,rfl⟩;rw [Ev] at HI ⊢;obtain ⟨v1,v2⟩:=v;clear Ev;simp only at HI ⊢;generalize 10^(12*(q - p))=t12 at *;generalize 12*(q - p)=c12 at *;generalize Ql n p q=ex at *;generalize yV n p q=r at *;generalize j5 n p q=a at *;generalize n^p=np at *;clear hn;unfold dW at *;generalize (⟨(Lib.itoa (n:Int)).toArray⟩:ByteArray)=tn at *;generalize (⟨(Lib.itoa (np:Int)).toArray⟩:ByteArray)=tnp at *;generalize (⟨(Lib.itoa (t12:Int)).toArray⟩:ByteArray)=am3 at *;generalize (⟨(Lib.itoa (a:Int)).toArray⟩:ByteArray)=ta at *;generalize (⟨(Lib.itoa (r:Int)).toArray⟩:ByteArray)=tr at *;go_enter Tryz.func253,Tryz.ntmps253
    go_wp2_with fail
    obtain ⟨wx,EW,hz,X⟩:=wR w #[Z I (p:Int),Z I (q:Int)] 252;rw [EW];clear EW;have HB1:=zh hz;clear hz;obtain ⟨bx,eb⟩:∃ y,w.heap.size=y:=⟨_,rfl⟩;rw [eb] at X ⊢;obtain ⟨cX,lX⟩:=X.cl;refine aJ [(.pure,0),(.pure,2),(.pure,3),(.read,4),(.ext,1),(.ext,5),(.pure,6),(.pure,7),(.pure,8),(.fin,9),(.fin,10)] zk zk zR zP ?_;refine zW ?_;refine aS rfl rfl (fun we hbe J hJ=>?_);go_simp;have h1:Below wx.heap.size wx we:=aF;refine (HO.out _ (HP.out.later (Bt HB1.out h1))).mono ?_;rintro e w1 ⟨rfl,hb1⟩;refine hJ _ _ hb1 ?_;clear hJ J;have h2:=Bt h1 hb1;clear h1 hbe hb1;refine aS rfl rfl (fun we hbe J hJ=>?_);go_simp;have h3:Below w1.heap.size w1 we:=aF;refine (Nv.out _ (HP.out.later (Bt HB1.out (Bt h2 h3)))).mono ?_;rintro e w2 ⟨rfl,hb2⟩;refine hJ _ _ hb2 ?_;clear hJ J;have h4:=Bt h2 (Bt h3 hb2);clear h3 h2 hbe hb2;refine zV ?_
    refine dA [_,_] rfl (fun wf hbf=>?_);have h5:Below wx.heap.size wx wf:=Bt h4 aF;replace X:=X.bl h5;replace HB1:=zh (Bt HB1.out h5);clear h5 h4 hbf cX lX;obtain ⟨cX,lX⟩:=X.cl;go_wp2_with fail
    try rw [e12]
    refine (HT.out _).mono ?_;rintro e w3 ⟨rfl,hb3⟩;replace HB1:=zh (Bt HB1.out hb3);replace X:=X.bl hb3;clear hb3 cX lX;obtain ⟨cX,lX⟩:=X.cl;go_wp2_with fail
    refine (HM.out _ (HP.out.later HB1.out)).mono ?_;rintro e w4 ⟨rfl,hb4⟩;replace HB1:=zh (Bt HB1.out hb4);replace X:=X.bl hb4;clear hb4 cX lX;obtain ⟨cX,lX⟩:=X.cl;go_wp2_with fail
    refine (HR.out _ (HP.out.later HB1.out)).mono ?_;rintro e w5 ⟨rfl,hb5⟩;replace HB1:=zh (Bt HB1.out hb5);clear hb5 X cX lX;cases up<;>cases ex
    all_goals
     go_wp2_with fail
     refine (HI.out _ (HE.out.later HB1.out)).mono ?_;rintro e w6 ⟨rfl,hb6⟩;have hw:=Bt HB1.out hb6;go_wp2_with fail
     go_ret2
     exact ⟨rfl,hw⟩
   ·have hno:¬ yV n p q≤10^18:=Nat.not_le.2 (Ve q1 Ot (Nat.not_lt.1 fun h=>h2 (xP.2 h)));rw [G9 hno];rw [show AV ((j5 n p q:Nat):Int)= aG #[O ⟨#[]⟩,Z I 6] from by unfold AV;rw [Int.natAbs_natCast,if_neg h2]] at HM;clear ex ea h2 h1 hn0 hno;generalize 10^(12*(q - p))=t12 at *;generalize 12*(q - p)=c12 at *;generalize n^p=np at *;clear hn;unfold dW at *;generalize (⟨(Lib.itoa (n:Int)).toArray⟩:ByteArray)=tn at *;generalize (⟨(Lib.itoa (np:Int)).toArray⟩:ByteArray)=tnp at *;generalize (⟨(Lib.itoa (t12:Int)).toArray⟩:ByteArray)=am3 at *;go_enter Tryz.func253,Tryz.ntmps253
    go_wp2_with fail
    obtain ⟨wx,EW,hz,X⟩:=wR w #[Z I (p:Int),Z I (q:Int)] 252;rw [EW];clear EW;have HB1:=zh hz;clear hz;obtain ⟨bx,eb⟩:∃ y,w.heap.size=y:=⟨_,rfl⟩;rw [eb] at X ⊢;obtain ⟨cX,lX⟩:=X.cl;refine aJ [(.pure,0),(.pure,2),(.pure,3),(.read,4),(.ext,1),(.ext,5),(.pure,6),(.pure,7),(.pure,8),(.fin,9),(.fin,10)] zk zk zR zP ?_;refine zW ?_;refine aS rfl rfl (fun we hbe J hJ=>?_);go_simp;have h1:Below wx.heap.size wx we:=aF;refine (HO.out _ (HP.out.later (Bt HB1.out h1))).mono ?_;rintro e w1 ⟨rfl,hb1⟩;refine hJ _ _ hb1 ?_;clear hJ J;have h2:=Bt h1 hb1;clear h1 hbe hb1;refine aS rfl rfl (fun we hbe J hJ=>?_);go_simp;have h3:Below w1.heap.size w1 we:=aF;refine (Nv.out _ (HP.out.later (Bt HB1.out (Bt h2 h3)))).mono ?_;rintro e w2 ⟨rfl,hb2⟩;refine hJ _ _ hb2 ?_;clear hJ J;have h4:=Bt h2 (Bt h3 hb2);clear h3 h2 hbe hb2;refine zV ?_
    refine dA [_,_] rfl (fun wf hbf=>?_);have h5:Below wx.heap.size wx wf:=Bt h4 aF;replace X:=X.bl h5;replace HB1:=zh (Bt HB1.out h5);clear h5 h4 hbf cX lX;obtain ⟨cX,lX⟩:=X.cl;go_wp2_with fail
    try rw [e12]
    refine (HT.out _).mono ?_;rintro e w3 ⟨rfl,hb3⟩;replace HB1:=zh (Bt HB1.out hb3);replace X:=X.bl hb3;clear hb3 cX lX;obtain ⟨cX,lX⟩:=X.cl;go_wp2_with fail
    refine (HM.out _ (HP.out.later HB1.out)).mono ?_;rintro e w4 ⟨rfl,hb4⟩;have hw:=Bt HB1.out hb4;go_wp2_with fail
    go_ret2
    exact ⟨rfl,hw⟩
  ·have g:decide ((p:Int)≤(q:Int))=false:=by simp;omega
   have e12:(12:Int)*((p:Int) - (q:Int))=((12*(p - q):Nat):Int):=by omega
   have h12:12*(p - q)≤420:=by omega
   have HT:=zh (fun W=>rF (12*(p - q)) zo W);have HM:=zh (fun W h=>sI (n^p) (10^(12*(p - q))) h1 (OA zo) (rG _) W h);have ea:=Jh (n:=n) (p:=p) (q:=q) zo;rw [← ea] at HM;have ex:Ql n p q=_:=ZH q1 zo
   have h2:kI (j5 n p q)=true:=by
    rw [ea];exact qB h1 (Nat.div_le_self _ _)
   ·have HR:=zh (fun W h=>xI (j5 n p q) q h2 q1 Ot W h);have HI:=zh (fun W h=>wH (yV n p q) (up&& !(Ql n p q)) (qB h2 (pE q1)) W h);rw [JB] at HI
    change Hid (∀ (W:World),jH.Pow W→Calls _ _ _ _ (fun e w'=>e= aj (aG #[dW ((yV n p q:Nat):Int),ak (decide (yV n p q^q=j5 n p q)),Z I 0])∧_)) at HR
    rw [ex] at HI;clear ex ea h2 h1 hn0;obtain ⟨v,Ev⟩:∃ v,CY n p q up=v:=⟨_,rfl⟩;rw [Ev] at HI ⊢;obtain ⟨v1,v2⟩:=v;clear Ev;simp only at HI ⊢;have hz:=zero_eq (n^p%10^(12*(p - q)));rw [← hz] at HI;clear hz;generalize n^p%10^(12*(p - q))=rm at *;generalize 10^(12*(p - q))=t12 at *;generalize 12*(p - q)=c12 at *;generalize decide (yV n p q^q=j5 n p q)=ex at *;generalize yV n p q=r at *;generalize j5 n p q=a at *;generalize n^p=np at *;clear hn;unfold dW at *;generalize (⟨(Lib.itoa (n:Int)).toArray⟩:ByteArray)=tn at *;generalize (⟨(Lib.itoa (np:Int)).toArray⟩:ByteArray)=tnp at *;generalize (⟨(Lib.itoa (t12:Int)).toArray⟩:ByteArray)=am3 at *;generalize (⟨(Lib.itoa (a:Int)).toArray⟩:ByteArray)=ta at *;generalize (⟨(Lib.itoa (r:Int)).toArray⟩:ByteArray)=tr at *;generalize (⟨(Lib.itoa (rm:Int)).toArray⟩:ByteArray)=tm at *;go_enter Tryz.func253,Tryz.ntmps253
    go_wp2_with fail
    obtain ⟨wx,EW,hz,X⟩:=wR w #[Z I (p:Int),Z I (q:Int)] 252;rw [EW];clear EW;have HB1:=zh hz;clear hz;obtain ⟨bx,eb⟩:∃ y,w.heap.size=y:=⟨_,rfl⟩;rw [eb] at X ⊢;obtain ⟨cX,lX⟩:=X.cl;refine aJ [(.pure,0),(.pure,2),(.pure,3),(.read,4),(.ext,1),(.ext,5),(.pure,6),(.pure,7),(.pure,8),(.fin,9),(.fin,10)] zk zk zR zP ?_;refine zW ?_;refine aS rfl rfl (fun we hbe J hJ=>?_);go_simp;have h1:Below wx.heap.size wx we:=aF;refine (HO.out _ (HP.out.later (Bt HB1.out h1))).mono ?_;rintro e w1 ⟨rfl,hb1⟩;refine hJ _ _ hb1 ?_;clear hJ J;have h2:=Bt h1 hb1;clear h1 hbe hb1;refine aS rfl rfl (fun we hbe J hJ=>?_);go_simp;have h3:Below w1.heap.size w1 we:=aF;refine (Nv.out _ (HP.out.later (Bt HB1.out (Bt h2 h3)))).mono ?_;rintro e w2 ⟨rfl,hb2⟩;refine hJ _ _ hb2 ?_;clear hJ J;have h4:=Bt h2 (Bt h3 hb2);clear h3 h2 hbe hb2;refine zV ?_
    refine dA [_,_] rfl (fun wf hbf=>?_);have h5:Below wx.heap.size wx wf:=Bt h4 aF;replace X:=X.bl h5;replace HB1:=zh (Bt HB1.out h5);clear h5 h4 hbf cX lX;obtain ⟨cX,lX⟩:=X.cl;go_wp2_with fail
    try rw [e12]
    refine (HT.out _).mono ?_;rintro e w3 ⟨rfl,hb3⟩;replace HB1:=zh (Bt HB1.out hb3);replace X:=X.bl hb3;clear hb3 cX lX;obtain ⟨cX,lX⟩:=X.cl;go_wp2_with fail
    refine (HM.out _ (HP.out.later HB1.out)).mono ?_;rintro e w4 ⟨rfl,hb4⟩;replace HB1:=zh (Bt HB1.out hb4);replace X:=X.bl hb4;clear hb4 cX lX;obtain ⟨cX,lX⟩:=X.cl;go_wp2_with fail
    refine (HR.out _ (HP.out.later HB1.out)).mono ?_;rintro e w5 ⟨rfl,hb5⟩;replace HB1:=zh (Bt HB1.out hb5);clear hb5 X cX lX;cases hz:(tm.toList == [48])<;>rw [hz] at HI<;>cases up<;>cases ex
    all_goals
     go_wp2_with fail
     refine (HI.out _ (HE.out.later HB1.out)).mono ?_;rintro e w6 ⟨rfl,hb6⟩;have hw:=Bt HB1.out hb6;go_wp2_with fail
     go_ret2
     exact ⟨rfl,hw⟩
 ·have hno:¬ yV n p q≤10^18:=Nat.not_le.2 (WJ q1 p36 Ot (Nat.not_lt.1 fun h=>h1 (xP.2 h)));rw [G9 hno];rw [show AV ((n^p:Nat):Int)= aG #[O ⟨#[]⟩,Z I 6] from by unfold AV;rw [Int.natAbs_natCast,if_neg h1]] at Nv;clear h1 hn0 hno hn;unfold dW at *;generalize (⟨(Lib.itoa (n:Int)).toArray⟩:ByteArray)=tn at *;go_enter Tryz.func253,Tryz.ntmps253
  go_wp2_with fail
  obtain ⟨wx,EW,hz,X⟩:=wR w #[Z I (p:Int),Z I (q:Int)] 252;rw [EW];clear EW;have HB1:=zh hz;clear hz;obtain ⟨bx,eb⟩:∃ y,w.heap.size=y:=⟨_,rfl⟩;rw [eb] at X ⊢;obtain ⟨cX,lX⟩:=X.cl;refine aJ [(.pure,0),(.pure,2),(.pure,3),(.read,4),(.ext,1),(.ext,5),(.pure,6),(.pure,7),(.pure,8),(.fin,9),(.fin,10)] zk zk zR zP ?_;refine zW ?_;refine aS rfl rfl (fun we hbe J hJ=>?_);go_simp;have h1:Below wx.heap.size wx we:=aF;refine (HO.out _ (HP.out.later (Bt HB1.out h1))).mono ?_;rintro e w1 ⟨rfl,hb1⟩;refine hJ _ _ hb1 ?_;clear hJ J;have h2:=Bt h1 hb1;clear h1 hbe hb1;refine aS rfl rfl (fun we hbe J hJ=>?_);go_simp;have h3:Below w1.heap.size w1 we:=aF;refine (Nv.out _ (HP.out.later (Bt HB1.out (Bt h2 h3)))).mono ?_;rintro e w2 ⟨rfl,hb2⟩;refine hJ _ _ hb2 ?_;clear hJ J;have h4:=Bt h2 (Bt h3 hb2);clear h3 h2 hbe hb2;refine zV ?_
  refine dA [_,_] rfl (fun wf hbf=>?_);have h5:Below wx.heap.size wx wf:=Bt h4 aF;replace X:=X.bl h5;replace HB1:=zh (Bt HB1.out h5);clear h5 h4 hbf cX lX;obtain ⟨cX,lX⟩:=X.cl;have hw:=HB1.out;go_wp2_with fail
  go_ret2
  exact ⟨rfl,hw⟩
end Go.Proofs.power
namespace Go.Proofs.power
open Go Go.RowKit Go.SW Go.Num Go.Mem Go.Proofs Go.Dec Go.gD Go.Proofs.whole Go.Proofs.dH
def Cb (a b:Int × Int):(Int × Int) × Int:=if a.2≠0 then ((0,0),a.2) else if b.2≠0 then ((0,0),b.2) else if iG a.1 b.1 then ((a.1,b.1),0) else ((0,0),6)
theorem Oz (a b:Int × Int):Qu a b=d9 (Cb a b):=by
 unfold Qu Cb d9
 by_cases h1:a.2=0<;>by_cases h2:b.2=0<;>cases h3:iG a.1 b.1<;>simp [h1,h2]
def ZC (lo hi p q:Int):(Int × Int) × Int:=if iG lo hi=false then ((0,0),30) else if eok p q=false∨lo<0 then ((0,0),2) else Cb (CY lo.toNat p.toNat q.toNat false) (CY hi.toNat p.toNat q.toNat true)
theorem Vp (lo hi p q:Int) (w:World) (ht:jH.Pow w) (he:Er w) :
  Calls Tryz.prog 199 #[au #[Z I lo,Z I hi],Z I p,Z I q] w (fun e w'=>e= aj (d9 (ZC lo hi p q))∧Below w.heap.size w w'):=by
 have HP:=zh ht;have HE:=zh he;have HC:=zh (fun W=>iT lo hi W);have HV:=zh (fun W=>nO p q W);clear ht he;generalize hz0:ZC lo hi p q=z at *;unfold ZC at hz0;obtain ⟨⟨z1,z2⟩,z3⟩:=z;unfold d9;simp only;go_enter Tryz.func199,Tryz.ntmps199
 go_wp2_with fail
 obtain ⟨wx,EW,hz,X,R⟩:=Dz w #[Z I lo,Z I hi] 40 #[Z I 0,Z I 0] 40;rw [EW];clear EW;have HB:=zh hz;clear hz;obtain ⟨bx,eb⟩:∃ y,w.heap.size=y:=⟨_,rfl⟩;rw [eb] at X R ⊢;refine (HC.out _).mono ?_;rintro e w1 ⟨rfl,hb1⟩;replace X:=X.bl hb1;replace R:=R.bl hb1;replace HB:=zh (Bt HB.out hb1);clear hb1 HC;obtain ⟨cX,lX⟩:=X.cl;cases hk:iG lo hi
 ·rw [hk,if_pos rfl] at hz0;cases hz0
  have hx:=R.out;have cx:=hx.cell;have fx:=hx.free;have lx:=hx.lt;have hw:=HB.out;go_wp2_with fail
  refine bH rfl rfl bf Tryz.underlying40 rfl zk ?_;exact ⟨rfl,aF⟩
 ·rw [hk,if_neg zi] at hz0;go_wp2_with fail
  obtain ⟨wy,EW,hz,Y⟩:=wR w1 #[Z I p,Z I q] 252;rw [EW];clear EW;replace HB:=zh (Bt HB.out hz);replace X:=X.bl hz;replace R:=R.bl hz;clear hz cX lX;obtain ⟨by',eb⟩:∃ y,w1.heap.size=y:=⟨_,rfl⟩;rw [eb] at Y ⊢;refine (HV.out _).mono ?_;rintro e w2 ⟨rfl,hb2⟩;replace HB:=zh (Bt HB.out hb2);replace X:=X.bl hb2;replace R:=R.bl hb2;replace Y:=Y.bl hb2;clear hb2 HV;obtain ⟨cX,lX⟩:=X.cl;obtain ⟨cY,lY⟩:=Y.cl;cases hv:eok p q
  ·rw [hv,if_pos (Or.inl rfl)] at hz0;cases hz0
   have hx:=R.out;have cx:=hx.cell;have fx:=hx.free;have lx:=hx.lt;have hw:=HB.out;go_wp2_with fail
   refine bH rfl rfl bf Tryz.underlying40 rfl zk ?_;exact ⟨rfl,aF⟩
  ·by_cases h0:lo<0
   ·have g:decide (lo<0)=true:=decide_eq_true h0;rw [if_pos (Or.inr h0)] at hz0;cases hz0
    have hx:=R.out;have cx:=hx.cell;have fx:=hx.free;have lx:=hx.lt;have hw:=HB.out;go_wp2_with fail
    refine bH rfl rfl bf Tryz.underlying40 rfl zk ?_;exact ⟨rfl,aF⟩
   ·have g:decide (lo<0)=false:=decide_eq_false h0;rw [hv,if_neg (by simp [h0])] at hz0;obtain ⟨hp1,az9,hq1,hq12⟩:1≤p∧p≤36∧1≤q∧q≤12:=by simpa [eok] using hv
    obtain ⟨hk1,hk2,hk3⟩: -1000000000000000000≤lo∧lo≤hi∧hi≤1000000000000000000:=by simpa [iG] using hk
    have h18:(10:Nat)^18=1000000000000000000:=by decide
    have E1:=fun W (h:Below w2.heap.size w2 W)=>ML lo.toNat p.toNat q.toNat false (by rw [h18];omega) zo zo zo zo W (HP.out.later (Bt HB.out h)) (HE.out.later (Bt HB.out h));have E2:=fun W (h:Below w2.heap.size w2 W)=>ML hi.toNat p.toNat q.toNat true (by rw [h18];omega) zo zo zo zo W (HP.out.later (Bt HB.out h)) (HE.out.later (Bt HB.out h));simp only [Int.toNat_of_nonneg (show 0≤lo by omega),Int.toNat_of_nonneg (show 0≤hi by omega),Int.toNat_of_nonneg (show 0≤p by omega),Int.toNat_of_nonneg (show 0≤q by omega)] at E1 E2;have HO:=zh (LK lo hi (.func (.func 253) #[au #[Z I p,Z I q]] #[]) 253 #[au #[Z I p,Z I q]] #[] _ _ w2 rfl E1 E2 rfl (fun args W=>by rfl));rw [Oz,hz0] at HO;unfold d9 at HO;clear hz0 E1 E2 h18 hp1 az9 hq1 hq12 hk1 hk2 hk3 hv h0 hk;go_wp2_with fail
    refine HO.out.mono ?_;rintro e w3 ⟨rfl,hb3⟩;replace HB:=zh (Bt HB.out hb3);replace R:=R.bl hb3;clear hb3 HO X Y cX lX cY lY;have hx:=R.out;have cx:=hx.cell;have fx:=hx.free;have lx:=hx.lt;have hw:=HB.out;go_wp2_with fail
    refine bH rfl rfl bf Tryz.underlying40 rfl zk ?_;exact ⟨rfl,aF⟩
theorem Ib (lo hi q:Int) (w:World) (ht:jH.Pow w) (he:Er w) :
  Calls Tryz.prog 124 #[au #[Z I lo,Z I hi],Z I q] w (fun e w'=>e= aj (d9 (ZC lo hi 1 q))∧Below w.heap.size w w'):=by
 have HP:=zh ht;have HE:=zh he;have H:=zh (fun W h1 h2=>Vp lo hi 1 q W h1 h2);clear ht he;generalize ZC lo hi 1 q=z at *;obtain ⟨⟨z1,z2⟩,z3⟩:=z;unfold d9 at *;simp only at *;go_enter Tryz.func124,Tryz.ntmps124
 go_wp2_with fail
 obtain ⟨wx,EW,hz,X,R⟩:=Dz w #[Z I lo,Z I hi] 40 #[Z I 0,Z I 0] 40;rw [EW];clear EW;have HB:=zh hz;clear hz;obtain ⟨bx,eb⟩:∃ y,w.heap.size=y:=⟨_,rfl⟩;rw [eb] at X R ⊢;refine (H.out _ (HP.out.later HB.out) (HE.out.later HB.out)).mono ?_;rintro e w1 ⟨rfl,hb1⟩;replace R:=R.bl hb1;replace HB:=zh (Bt HB.out hb1);clear hb1 X;have hx:=R.out;have cx:=hx.cell;have fx:=hx.free;have lx:=hx.lt;have hw:=HB.out;go_wp2_with fail
 refine bH rfl rfl bf Tryz.underlying40 rfl zk ?_;exact ⟨rfl,aF⟩
end Go.Proofs.power
namespace Go.Proofs.fu
open Go Go.RowKit Go.SW Go.Num Go.Mem Go.Proofs Go.Dec Go.gD
theorem TM (x y:Value) (p q:Rat) (w:World) (hx:gJ w x p) (hy:gJ w y q) (kp:jw 1000000 p) (kq:jw 1000000 q) :
  Calls Tryz.prog 64 #[x,y] w (fun e w'=>∃ v,e= aj v∧Below w.heap.size w w'∧gJ w' v (p*q)):=by
 obtain ⟨Jk,lH,J9,VN,mH,VR,rfl,H,Hd⟩:=hx;replace H:=zh H;replace Hd:=zh Hd;obtain ⟨ZM,lG,caG,pbG,mG,cbG,rfl,G,Gd⟩:=hy;replace G:=zh G;replace Gd:=zh Gd;have HP:=zh (L9 p q);have hp:=p.den_pos;have hq:=q.den_pos;have hg:0<p.num.natAbs.gcd q.den:=Nat.gcd_pos_of_pos_right _ hq;have hh:0<q.num.natAbs.gcd p.den:=Nat.gcd_pos_of_pos_right _ hp;obtain ⟨kp1,kp2⟩:=kp;obtain ⟨kq1,kq2⟩:=kq;obtain ⟨g,Eg⟩:∃ y:Nat,Hid (p.num.natAbs.gcd q.den=y):=⟨_,zh rfl⟩;rw [Eg.out] at hg HP;obtain ⟨h,Eh⟩:∃ y:Nat,Hid (q.num.natAbs.gcd p.den=y):=⟨_,zh rfl⟩;rw [Eh.out] at hh HP;have k1:= @kE p.num.natAbs g;have k2:= @kE p.den h;have k3:= @kE q.num.natAbs h;have k4:= @kE q.den g;obtain ⟨a,Ea⟩:∃ y:Nat,Hid (p.num.natAbs / g=y):=⟨_,zh rfl⟩;rw [Ea.out] at HP k1;obtain ⟨b,Eb⟩:∃ y:Nat,Hid (p.den / h=y):=⟨_,zh rfl⟩;rw [Eb.out] at HP k2;obtain ⟨c,Ec⟩:∃ y:Nat,Hid (q.num.natAbs / h=y):=⟨_,zh rfl⟩
 rw [Ec.out] at HP k3;obtain ⟨d,Ed⟩:∃ y:Nat,Hid (q.den / g=y):=⟨_,zh rfl⟩;rw [Ed.out] at HP k4;obtain ⟨s,Es⟩:∃ y:Nat,Hid (a*c=y):=⟨_,zh rfl⟩;rw [Es.out] at HP;obtain ⟨t,Et⟩:∃ y:Nat,Hid (b*d=y):=⟨_,zh rfl⟩;rw [Et.out] at HP;have HGp:=zh hg;have HHp:=zh hh;have Kpn:Hid (sz 1000000000 p.num.natAbs≤549755813888):=by unfold Hid;omega
 have Kqn:Hid (sz 1000000000 q.num.natAbs≤549755813888):=by unfold Hid;omega
 have Kpd:Hid (sz 1000000000 p.den≤549755813888):=by unfold Hid;omega
 have Kqd:Hid (sz 1000000000 q.den≤549755813888):=by unfold Hid;omega
 have Ka:Hid (sz 1000000000 a≤1099511627776):=by unfold Hid;omega
 have Kb:Hid (sz 1000000000 b≤1099511627776):=by unfold Hid;omega
 have Kc:Hid (sz 1000000000 c≤1099511627776):=by unfold Hid;omega
 have Kd:Hid (sz 1000000000 d≤1099511627776):=by unfold Hid;omega
 clear k1 k2 k3 k4 kp1 kp2 kq1 kq2 hg hh hp hq;go_enter Tryz.func64,Tryz.ntmps64
 go_wp2_with fail
 refine ((wJ _ _ p.num.natAbs q.den _ aW aW Kpn.out Kqd.out).mono (by rw [Eg.out];exact fun _ _ h=>h)).mono ?_;rintro e v1 ⟨v,rfl,hc1,hv⟩;obtain ⟨aL0,lMg,aP8,rfl⟩:=hv.slice;have Mg:=zh hv;clear hv;replace H:=zh (bW.carry H.out aW hc1);replace Hd:=zh (bW.carry Hd.out aW hc1);replace G:=zh (bW.carry G.out aW hc1);replace Gd:=zh (bW.carry Gd.out aW hc1);have BR:=aA.later (aA.at2 _ _ _ _ _) hc1;have dV:=BR.cell;have dU:=BR.free;have B1:=aA.later (aA.alloc (aA.pV _ _ _ _) _) hc1;have cB1:=B1.cell;have uZ:=B1.free;have B0:=aA.later (aA.alloc (aA.alloc (aA.new _ _ _) _) _) hc1;have cB0:=B0.cell;have kM:=B0.free;go_wp2_with fail
 refine ((wJ _ _ q.num.natAbs p.den _ aW aW Kqn.out Kpd.out).mono (by rw [Eh.out];exact fun _ _ h=>h)).mono ?_;rintro e v2 ⟨v,rfl,hc2,hv⟩;obtain ⟨aK9,lMh,aP7,rfl⟩:=hv.slice;have Mh:=zh hv;clear hv;replace H:=zh (bW.later H.out hc2);replace Hd:=zh (bW.later Hd.out hc2);replace G:=zh (bW.later G.out hc2);replace Gd:=zh (bW.later Gd.out hc2);replace Mg:=zh (bW.later Mg.out hc2);replace BR:=aA.later (BR) hc2;replace dV:=BR.cell;replace dU:=BR.free;replace B1:=aA.later (B1) hc2;replace cB1:=B1.cell;replace uZ:=B1.free;replace B0:=aA.later (B0) hc2;replace cB0:=B0.cell;replace kM:=B0.free;go_wp2_with fail
 refine ((iw _ _ p.num.natAbs g _ aW aW HGp.out Kpn.out).mono (by rw [Ea.out];exact fun _ _ h=>h)).mono ?_;rintro e v3 ⟨v,vr,rfl,hc3,hv,pF⟩;obtain ⟨aL4,lMa,aQ2,rfl⟩:=hv.slice;have Ma:=zh hv;clear hv;obtain ⟨aG6,aN3,aH8,rfl⟩:=pF.slice;have Mar:=zh pF;clear pF;replace Hd:=zh (bW.later Hd.out hc3);replace G:=zh (bW.later G.out hc3);replace Gd:=zh (bW.later Gd.out hc3);replace Mg:=zh (bW.later Mg.out hc3);replace Mh:=zh (bW.later Mh.out hc3);replace BR:=aA.later (BR) hc3;replace dV:=BR.cell;replace dU:=BR.free;replace B1:=aA.later (B1) hc3;replace cB1:=B1.cell;replace uZ:=B1.free;replace B0:=aA.later (B0) hc3;replace cB0:=B0.cell;replace kM:=B0.free;go_wp2_with fail
 clear Mar H;refine ((iw _ _ p.den h _ aW aW HHp.out Kpd.out).mono (by rw [Eb.out];exact fun _ _ h=>h)).mono ?_;rintro e v4 ⟨v,vr,rfl,hc4,hv,pF⟩;obtain ⟨aL3,lMb,aQ1,rfl⟩:=hv.slice;have Mb:=zh hv;clear hv;obtain ⟨aG5,aN2,aH7,rfl⟩:=pF.slice;have Mbr:=zh pF;clear pF;replace G:=zh (bW.later G.out hc4);replace Gd:=zh (bW.later Gd.out hc4);replace Mg:=zh (bW.later Mg.out hc4);replace Mh:=zh (bW.later Mh.out hc4);replace Ma:=zh (bW.later Ma.out hc4);replace BR:=aA.later (BR) hc4;replace dV:=BR.cell;replace dU:=BR.free;replace B1:=aA.later (B1) hc4;replace cB1:=B1.cell;replace uZ:=B1.free;replace B0:=aA.later (B0) hc4;replace cB0:=B0.cell;replace kM:=B0.free;go_wp2_with fail
 clear Mbr Hd;refine ((iw _ _ q.num.natAbs h _ aW aW HHp.out Kqn.out).mono (by rw [Ec.out];exact fun _ _ h=>h)).mono ?_;rintro e v5 ⟨v,vr,rfl,oH,hv,pF⟩;obtain ⟨aL2,lMc,aQ0,rfl⟩:=hv.slice;have Mc:=zh hv;clear hv;obtain ⟨aG4,aN1,aH6,rfl⟩:=pF.slice;have Mcr:=zh pF;clear pF;replace Gd:=zh (bW.later Gd.out oH);replace Mg:=zh (bW.later Mg.out oH);replace Ma:=zh (bW.later Ma.out oH);replace Mb:=zh (bW.later Mb.out oH);replace BR:=aA.later (BR) oH;replace dV:=BR.cell;replace dU:=BR.free;replace B1:=aA.later (B1) oH;replace cB1:=B1.cell;replace uZ:=B1.free;replace B0:=aA.later (B0) oH;replace cB0:=B0.cell;replace kM:=B0.free;go_wp2_with fail
 clear Mcr G;refine ((iw _ _ q.den g _ aW aW HGp.out Kqd.out).mono (by rw [Ed.out];exact fun _ _ h=>h)).mono ?_;rintro e v6 ⟨v,vr,rfl,hc6,hv,pF⟩;obtain ⟨aL1,lMd,aP9,rfl⟩:=hv.slice;have Md:=zh hv;clear hv;obtain ⟨aG3,aN0,aH5,rfl⟩:=pF.slice;have Mdr:=zh pF;clear pF;replace Ma:=zh (bW.later Ma.out hc6);replace Mb:=zh (bW.later Mb.out hc6);replace Mc:=zh (bW.later Mc.out hc6);replace BR:=aA.later (BR) hc6;replace dV:=BR.cell;replace dU:=BR.free;replace B1:=aA.later (B1) hc6;replace cB1:=B1.cell;replace uZ:=B1.free;replace B0:=aA.later (B0) hc6;replace cB0:=B0.cell;replace kM:=B0.free;go_wp2_with fail
 clear Mdr Gd;refine aJ [(.pure,0),(.pure,1),(.pure,3),(.pure,4),(.read,5),(.pure,6),(.pure,7),(.read,8),(.pure,9),(.pure,11),(.pure,12),(.ext,2),(.ext,10),(.ext,13),(.pure,14),(.fin,15)] zk zk zR zP ?_;refine zV ?_;refine aS rfl rfl (fun w7 jP J hJ=>?_);go_simp;replace Ma:=zh (bW.carry Ma.out aW jP);replace Mb:=zh (bW.carry Mb.out aW jP);replace Mc:=zh (bW.carry Mc.out aW jP);replace Md:=zh (bW.carry Md.out aW jP);replace BR:=aA.later (aA.drew BR) jP;replace dV:=BR.cell;replace dU:=BR.free;refine ((jQ _ _ a c _ aW aW Ka.out Kc.out).mono (by rw [Es.out];exact fun _ _ h=>h)).mono ?_;rintro e v7 ⟨v,rfl,G5,hv⟩;obtain ⟨aK8,lMs,aP6,rfl⟩:=hv.slice;have Ms:=zh hv;clear hv;replace Ma:=zh (bW.later Ma.out G5);replace Mb:=zh (bW.later Mb.out G5);replace Mc:=zh (bW.later Mc.out G5);replace Md:=zh (bW.later Md.out G5)
 replace BR:=aA.later (BR) G5;replace dV:=BR.cell;replace dU:=BR.free;refine hJ _ _ G5 ?_;clear hJ J;refine aS rfl rfl (fun w8 Iw J hJ=>?_);go_simp;replace Mb:=zh (bW.later Mb.out Iw);replace Md:=zh (bW.later Md.out Iw);replace Ms:=zh (bW.later Ms.out Iw);replace BR:=aA.later (BR) Iw;replace dV:=BR.cell;replace dU:=BR.free;refine (fO _ s _ _ aW).mono ?_;rintro e v8 ⟨v,rfl,hc8,hv⟩;obtain ⟨aK6,lMv,aP4,rfl,Mv⟩:=hv;replace Mv:=zh Mv;replace Mb:=zh (bW.later Mb.out hc8);replace Md:=zh (bW.later Md.out hc8);replace Ms:=zh (bW.later Ms.out hc8);replace BR:=aA.later (BR) hc8;replace dV:=BR.cell;replace dU:=BR.free;refine hJ _ _ hc8 ?_;clear hJ J;refine aS rfl rfl (fun w9 sZ J hJ=>?_);go_simp;replace Mb:=zh (bW.later Mb.out sZ);replace Md:=zh (bW.later Md.out sZ);replace Mv:=zh (bW.later Mv.out sZ)
 replace BR:=aA.later (BR) sZ;replace dV:=BR.cell;replace dU:=BR.free;refine ((jQ _ _ b d _ aW aW Kb.out Kd.out).mono (by rw [Et.out];exact fun _ _ h=>h)).mono ?_;rintro e v9 ⟨v,rfl,MB,hv⟩;obtain ⟨aK7,lMt,aP5,rfl⟩:=hv.slice;have Mt:=zh hv;clear hv;replace Mb:=zh (bW.later Mb.out MB);replace Md:=zh (bW.later Md.out MB);replace Mv:=zh (bW.later Mv.out MB);replace BR:=aA.later (BR) MB;replace dV:=BR.cell;replace dU:=BR.free;refine hJ _ _ MB ?_;clear hJ J;refine zV ?_;refine dA [_] rfl (fun w14 ac2=>?_);replace BR:=aA.later (BR) ac2;replace dV:=BR.cell;replace dU:=BR.free;go_wp2_with fail
 refine gF rfl rfl bf Tryz.underlying108 rfl zk ?_;exact ⟨_,rfl,aF,gJ.mk (iV s (!(decide (p.num<0) == decide (q.num<0)))).natAbs t aW aW (by rw [HP.out.1]) HP.out.2.symm (by rw [HP.out.1])⟩
end Go.Proofs.fu
