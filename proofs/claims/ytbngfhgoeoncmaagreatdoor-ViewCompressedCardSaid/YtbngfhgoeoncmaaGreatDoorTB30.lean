/- Lemmas for the proof. No condition. -/
import Derived.Test.YtbngfhgoeoncmaaGreatDoorTB29
set_option linter.unusedVariables false
set_option linter.unusedSimpArgs false
set_option maxRecDepth 100000
set_option maxHeartbeats 16000000
open Bool renaming and_eq_true → aD
open Go.Ending renaming returned → ah
open Go.IntKind renaming i64 → I
open Go.Value renaming agg → aB, bool → aC, int → Z, pointer → au, slice → aj, tuple → aF
open List renaming cons_append → bB, getElem_mem → bN, length_cons → aV, take_length → eX
open Nat renaming le_refl → aG, le_trans → ay, lt_or_ge → aH
namespace Go.Proofs.matrix
open Go Go.RowKit Go.SW Go.Num Go.Mem Go.Proofs Go.Dec Go.d9
theorem ZX:(Tryz.prog.info? 206).map (fun i=>(i.zero,i.size,i.bytes))=some (some (.agg #[aj none 0 0,aC false]),2,32):=by kernel_rfl
theorem MF (pa:Option Addr) (l ca:Nat) (b:Bool) (w:World):(Instr.field 206 (aB #[aj pa l ca,aC b]) 0).run Tryz.prog w= .ok (aj pa l ca) w:=by kernel_rfl
def AQ (w:World) (qs:List Rat) (e:Ending) (w':World):Prop:=∃ vt vb,e= ah (aF #[vt,vb])∧Below w.heap.size w w'∧iq w' vt (qs.map (kC (eO qs)))∧aT w' vb (eO qs)
theorem Cb (v:Value) (qs:List Rat) (T:TypeId) (w:World) (h:qM w T v (qs.map Fr.of)) (hq:∀ q∈qs,iG q=true) (hl:qs.length≤1000) :
  Calls Tryz.prog 132 #[v] w (AQ w qs):=by
 obtain ⟨i0,hi,hz0,hz1,hz2⟩:=info_parts ZX;obtain ⟨a,cap,rfl,hc1,hc2,hread⟩:=h.read;have hln:(qs.map Fr.of).length=qs.length:=List.length_map _
 have Pz:∀ k (h:k<qs.length),∃ b off,a=some ⟨b,off,none⟩∧b<w.heap.size∧w.cell? ⟨b,off+k*2,none⟩=some (.string ⟨(Lib.itoa qs[k].num).toArray⟩)∧w.cell? ⟨b,off+k*2+1,none⟩=some (.string ⟨(Lib.itoa (qs[k].den:Int)).toArray⟩):=fun k hk=>by
  obtain ⟨b,off,e1,e2,e3,e4⟩:=hread k zo;simp only [List.getElem_map] at e3 e4;exact ⟨b,off,e1,e2,e3,e4⟩
 rw [hln] at hc1 ⊢;have HRD:=zh Pz
 have hlen:∀ k (h:k<qs.length),(Lib.decDigits qs[k].num.natAbs).length≤600∧(Lib.decDigits ((qs[k].den:Nat):Int).natAbs).length≤600:=fun k h=>by
  have hq1:=hq _ (bN h);unfold iG at hq1;rw [aD,eZ,eZ] at hq1;exact ⟨hq1.1,(Int.natAbs_natCast qs[k].den).symm ▸ hq1.2⟩
 have HLEN:=zh hlen
 have HSZ:Hid (∀ k,k≤qs.length→sz 1000000000 (eO (qs.take k))≤549755813888):=zh fun k hk=>by
  have:=yt (qs.take k) (fun q h=>hq q (List.mem_of_mem_take h));rw [List.length_take] at this;omega
 have ag8:Hid (∀ k,0<eO (qs.take k)):=zh fun k=>(lZ _).1
 have Yl:Hid (∀ k (h:k<qs.length),sz 1000000000 qs[k].den≤549755813888∧sz 1000000000 qs[k].num.natAbs≤549755813888):=zh fun k h=>by
  have:=jH (hq _ (bN h));exact ⟨ay this.2 zo,ay this.1 zo⟩
 have HDP:Hid (∀ k (h:k<qs.length),0<qs[k].den):=zh fun k h=>qs[k].den_pos;clear hread Pz hlen hq h hln;have hfd:=MF;go_enter Tryz.func132,Tryz.ntmps132
 go_wp2_with fail
 go_loopw [13,3] (fun iv bv wr=>∃ k:Nat,iv= Z I (k:Int)∧k≤qs.length∧Hid (aT wr bv (eO (qs.take k)))∧Below w.heap.size w wr) (fun iv _ _=>qs.length - (intOf iv).toNat)
 case atStart=>exact ⟨0,rfl,by omega,zh (show aT _ _ 1 from aT.lit (d:=1) zo zo),aO⟩
 case round =>
  obtain ⟨k,rfl,hk,HB,hb⟩:=hrel;have hbm:=HB.out;obtain ⟨pb,lb,cb,rfl⟩:=hbm.slice;clear hbm
  rcases aH k qs.length with hlt|hge
  ·obtain ⟨b,off,rfl,hbl,hx1,hx2⟩:=HRD.out k hlt;have cx1:=(hb.cell (p:=⟨b,off+k*2,none⟩) hbl).trans hx1;have cx2:=(hb.cell (p:=⟨b,off+k*2+1,none⟩) hbl).trans hx2;have HL2:=zh (HLEN.out k hlt).2;have HS:=zh (HSZ.out k zo);have HP:=zh (ag8.out k);have HD:=zh (Yl.out k hlt).1;have HT:=zh (MV hlt);clear hx1 hx2;generalize eO (qs.take k)=ck at *;generalize qs[k]=q at *;go_wp2_with fail
   refine (gU (q.den:Int) HL2.out _).mono ?_;rintro e v1 ⟨v,rfl,hc1,hv⟩;obtain ⟨L6,Yy,MZ,rfl,HN⟩:=hv;replace HN:=zh HN;rw [Int.natAbs_natCast] at HN;replace HB:=zh (aT.carry HB.out aK hc1);go_wp2_with fail
   refine ((FD _ _ ck q.den _ aK aK HP.out HS.out HD.out).mono (by rw [← HT.out];exact fun _ _ h=>h)).mono ?_;rintro e v2 ⟨v,rfl,hc2,hv⟩;obtain ⟨L8,Yz,M0,rfl⟩:=hv.slice;have HM:=zh hv;clear hv;go_wp2_with fail
   go_roundw
   case rel=>exact ⟨k+1,by go_num,by omega,HM,Bt hb aO⟩
   case measure=>exact zM
  ·obtain rfl:k=qs.length:=by omega
   rw [eX] at HB;have Y4:=zh (lZ qs).2;have HP:=zh (ag8.out qs.length);have HS:=zh (HSZ.out qs.length (aG _));rw [eX] at HP HS;have HX:Hid (∀ (k:Nat) (h:k<qs.length),kC (eO qs) qs[k]=(qs.map (kC (eO qs))).getD k 0):=zh fun k h=>by simp [h]
   have HXL:Hid ((qs.map (kC (eO qs))).length=qs.length):=zh (List.length_map _);obtain ⟨xs,EXS⟩:∃ y:List Int,Hid (qs.map (kC (eO qs))=y):=⟨_,zh rfl⟩;obtain ⟨D,Vf⟩:∃ y:Nat,Hid (eO qs=y):=⟨_,zh rfl⟩;rw [EXS.out] at HX HXL;rw [Vf.out] at HX HB Y4 HP HS;go_wp2_with (at_make;refine wpList_make_full _ rfl _ _ 200 rfl w.heap.size 206 i0 (aB #[aj none 0 0,aC false]) 2 Tryz.underlying200 hi hz0 hz1 _ _ _ _ qs.length rfl rfl zo zo (by rw [hz2];omega) (by unfold maxLen;omega) hb.size ?_)
   intro w1 hown hgrow;have hbg:Below wr.heap.size wr w1:=(Below.refl _ _).grown hgrow (aG _) (fun k hk=>by cases hk);have HF:=zh (Fill.start (ok:=oK (fun i=>xs.getD i 0)) hown);replace HB:=zh (HB.out.later hbg);have hb1:Below w.heap.size w w1:=Bt hb hbg;have hgb:w.heap.size≤wr.heap.size:=hb.size;generalize wr.heap.size=G at *;clear hown hgrow hbg hb;go_wp2_with fail
   go_loopw [29] (fun iv wr2=>∃ k:Nat,iv= Z I (k:Int)∧k≤qs.length∧Hid (Fill wr2 G 206 qs.length k (oK (fun i=>xs.getD i 0)))∧Hid (aT wr2 (aj pb lb cb) D)∧Below w.heap.size w wr2) (fun iv _=>qs.length - (intOf iv).toNat)
   case atStart=>exact ⟨0,rfl,by omega,HF,HB,hb1⟩
   case round =>
    obtain ⟨k,rfl,hk,HF,HB,hb⟩:=hrel
    rcases aH k qs.length with hlt|hge
    ·obtain ⟨b,off,rfl,hbl,hx1,hx2⟩:=HRD.out k hlt;have cx1:=(hb.cell (p:=⟨b,off+k*2,none⟩) hbl).trans hx1;have cx2:=(hb.cell (p:=⟨b,off+k*2+1,none⟩) hbl).trans hx2;have Rn:=zh (HLEN.out k hlt).1;have HL2:=zh (HLEN.out k hlt).2;have HD1:=zh (Yl.out k hlt).1;have HD2:=zh (Yl.out k hlt).2;have HQ:=zh (HDP.out k hlt);have YS:=zh (HX.out k hlt);have lG:=HF.out.lt;clear hx1 hx2;generalize qs[k]=q at *;have hks:= @iF D q.den;have HKS:=zh (ay hks HS.out);clear hks;obtain ⟨c,Ec⟩:∃ y:Nat,Hid (D / q.den=y):=⟨_,zh rfl⟩;have QN:Hid (q.num*(c:Int)=xs.getD k 0):=zh (by rw [← YS.out,← Ec.out];rfl);rw [Ec.out] at HKS;go_wp2_with fail
     refine (gU (q.den:Int) HL2.out _).mono ?_;rintro e v1 ⟨v,rfl,hc1,hv⟩;obtain ⟨L6,Yy,MZ,rfl,HN⟩:=hv;replace HN:=zh HN;rw [Int.natAbs_natCast] at HN;replace HB:=zh (aT.carry HB.out aK hc1);have hbx:=aA.later (aA.new _ _ _) hc1;have cbx:=hbx.cell;have lbx:=hbx.lt;replace HF:=zh (HF.out.later (Bt aO hc1) (oK.later (Bt aO hc1)));go_wp2_with fail
     refine ((dG _ _ D q.den _ aK aK HQ.out HS.out).mono (by rw [Ec.out];exact fun _ _ h=>h)).mono ?_;rintro e v2 ⟨v,vr,rfl,hc2,hv,ji⟩;obtain ⟨ai9,lHC,an5,rfl⟩:=hv.slice;have HC:=zh hv;clear hv;obtain ⟨aq1,aw3,ar5,rfl⟩:=ji.slice;have HCr:=zh ji;clear ji;clear HCr;replace HB:=zh (HB.out.later hc2);replace hbx:=hbx.later hc2;replace cbx:=hbx.cell;replace lbx:=hbx.lt;replace HF:=zh (HF.out.later hc2 (oK.later hc2));go_wp2_with fail
     refine (gU q.num Rn.out _).mono ?_;rintro e v3 ⟨v,rfl,hc3,hv⟩;obtain ⟨L8,Yz,M0,rfl,HM⟩:=hv;replace HM:=zh HM;replace HB:=zh (HB.out.later hc3);replace HC:=zh (HC.out.later hc3);replace HF:=zh (HF.out.later hc3 (oK.later hc3));go_wp2_with fail
     refine ((lU _ _ q.num c _ (bW.dx aK) aK HD2.out HKS.out).mono (by rw [QN.out];exact fun _ _ h=>h)).mono ?_;rintro e v4 ⟨v,rfl,hc4,hv⟩;obtain ⟨Fv,UJ,Gv,rfl,HV⟩:=hv;replace HV:=zh HV;replace HB:=zh (HB.out.later hc4);replace HF:=zh (HF.out.later hc4 (oK.later hc4));obtain ⟨⟨y1,cy1⟩,⟨y2,cy2⟩,fy⟩:=HF.out.cells hlt;go_wp2_with fail
     have YE:=HF.out.AV;go_roundw
     case rel =>
      exact ⟨k+1,by go_num,by omega,zh (HF.out.step hlt (fun i x y h=>oK.vN YE.setCell zd _ _ _ (oK.vN YE zd _ _ _ h)) ⟨_,_,_,rfl,rfl,(HV.out.vN YE zd).vN YE.setCell zd⟩),
       zh ((HB.out.vN YE zd).vN YE.setCell zd),(by have hG:wr.heap.size≥0:=Nat.zero_le _;exact ((Bt (Bt (Bt (Bt (bG hb _) hc1) hc2) hc3) hc4).setCell hgb _).setCell hgb _)⟩
     case measure=>exact zM
    ·obtain rfl:k=qs.length:=by omega
     have hxl:=HXL.out
     have hfin:iq wr (aj (some ⟨G,0,none⟩) qs.length qs.length) xs:=by
      have:=HF.out;rw [← hxl] at this ⊢;exact iq.xW this zo
     have ao8:=zh hfin;clear hfin hxl;go_wp2_with fail
     go_ret2
     exact ⟨_,_,rfl,hb,by rw [EXS.out];exact ao8.out,by rw [Vf.out];exact HB.out⟩
def vC (w:World) (z:Int) (e:Ending) (w':World):Prop:=∃ v,e= ah (aF #[v,Z I 0])∧Below w.heap.size w w'∧bW w' v z
theorem TF (bx by':Nat) (vx vy:Value) (xs ys:List Int) (i:Nat) (w:World) (hx:iq w vx xs) (hy:iq w vy ys) (hbx:aA w bx #[vx] 200) (hby:aA w by' #[vy] 200)
  (h1:i<xs.length) (h2:i<ys.length) (k1:sz 1000000000 (xs.getD i 0).natAbs≤549755813888) (k2:sz 1000000000 (ys.getD i 0).natAbs≤549755813888) :
  Calls Tryz.prog 207 #[Z I (i:Int),au (some ⟨bx,0,none⟩),au (some ⟨by',0,none⟩)] w (vC w (xs.getD i 0*ys.getD i 0)):=by
 obtain ⟨a,cap,rfl,hc1,hc2,hread⟩:=hx.read;obtain ⟨a',cap',rfl,hc1',hc2',Dc⟩:=hy.read;obtain ⟨b,off,pa,n,ca,rfl,hbl,cx1,cx2,hm⟩:=hread i h1;obtain ⟨b',off',pa',n',ca',rfl,aw9,cy1,cy2,hm'⟩:=Dc i h2;have H:=zh hm;have H':=zh hm';have cbx:=hbx.cell;have cby:=hby.cell;have lx:=hbx.lt;have ly:=hby.lt;generalize xs.getD i 0=x at *;generalize ys.getD i 0=u at *;have K1:=zh k1;have K2:=zh k2;obtain ⟨z,Ez⟩:∃ y:Int,Hid (x*u=y):=⟨_,zh rfl⟩;rw [Ez.out];clear hm hm' hread Dc hx hy k1 k2 hbx hby;go_enter Tryz.func207,Tryz.ntmps207
 go_wp2_with fail
 refine aQ [(.read,0),(.pure,1),(.pure,2),(.read,3),(.read,4),(.pure,5),(.pure,6),(.read,7),(.ext,8),(.fin,9),(.fin,10)] zk zk zR zP ?_;refine zV ?_;refine aN rfl rfl (fun w1 hb1 J hJ=>?_);go_simp;have BR:=aA.later (aA.drew (aA.new _ _ _)) hb1;have bR:=BR.cell;have bQ:=BR.free;have gT:=BR.lt;refine ((uq _ _ x u _ (bW.dx aK) (bW.dx aK) K1.out K2.out).mono (by rw [Ez.out];exact fun _ _ h=>h)).mono ?_;rintro e v1 ⟨v,rfl,hc1,hv⟩;obtain ⟨Fv,UJ,Gv,rfl,HV⟩:=hv;replace HV:=zh HV;replace BR:=aA.later (BR) hc1;replace bR:=BR.cell;replace bQ:=BR.free;replace gT:=BR.lt;refine hJ _ _ hc1 ?_;clear hJ J;refine bT [_,_] rfl (fun w5 hb5=>?_);replace BR:=aA.later (BR) hb5;replace bR:=BR.cell;replace bQ:=BR.free;replace gT:=BR.lt;go_wp2_with fail
 refine bE rfl rfl aY Tryz.underlying206 rfl zk ?_;exact ⟨_,rfl,aO,bW.dx aK⟩
theorem TD (vx vy:Value) (x y:Int) (w:World) (hx:bW w vx x) (hy:bW w vy y) (k1:sz 1000000000 x.natAbs≤549755813888) (k2:sz 1000000000 y.natAbs≤549755813888) :
  Calls Tryz.prog 209 #[vx,vy] w (vC w (x+y)):=by
 obtain ⟨BM,lH,Ce,rfl,H⟩:=hx;replace H:=zh H;obtain ⟨Sj,lG,TN,rfl,G⟩:=hy;replace G:=zh G;have K1:=zh k1;have K2:=zh k2;obtain ⟨z,Ez⟩:∃ z:Int,Hid (x+y=z):=⟨_,zh rfl⟩;rw [Ez.out];clear k1 k2;go_enter Tryz.func209,Tryz.ntmps209
 go_wp2_with fail
 refine ((yL _ _ x y _ (bW.dx aK) (bW.dx aK) K1.out K2.out).mono (by rw [Ez.out];exact fun _ _ h=>h)).mono ?_;rintro e v1 ⟨v,rfl,hc1,hv⟩;obtain ⟨Fv,UJ,Gv,rfl,HV⟩:=hv;replace HV:=zh HV;have BR:=aA.later (aA.at2 _ _ _ _ _) hc1;have bR:=BR.cell;have bQ:=BR.free;have gT:=BR.lt;go_wp2_with fail
 refine bE rfl rfl aY Tryz.underlying206 rfl zk ?_;exact ⟨_,rfl,aO,bW.dx aK⟩
def qc (f:Nat→Int):Nat→Int
 | 0=>0
 | k+1=>qc f k+f k
theorem CP (f:Nat→Int) (K:Nat) (h:∀ j,sz 1000000000 (f j).natAbs≤K):∀ k,sz 1000000000 (qc f k).natAbs≤K+k
 | 0=>by simp [qc,uJ]
 | k+1=>by
  have h1:=CP f K h k;have h2:=h k;have h3:=vL (qc f k) (f k);simp only [qc];omega
def K9 (w:World) (z:Int) (e:Ending) (w':World):Prop:=∃ v,e= ah (aF #[v,Z I 0])∧Below w.heap.size w w'∧bW w' v z
theorem RL (bx by':Nat) (vx vy:Value) (xs ys:List Int) (n:Nat) (w:World) (hx:iq w vx xs) (hy:iq w vy ys) (hbx:aA w bx #[vx] 200) (hby:aA w by' #[vy] 200)
  (h1:xs.length=n) (h2:ys.length=n) (h0:0<n) (hn:n≤1000) (k1:∀ i,sz 1000000000 (xs.getD i 0).natAbs≤1000000) (k2:∀ i,sz 1000000000 (ys.getD i 0).natAbs≤1000000) :
  Calls Tryz.prog 206 #[Z I (n:Int),.func (.func 207) #[] #[au (some ⟨bx,0,none⟩),au (some ⟨by',0,none⟩)],.func (.func 209) #[] #[]] w (K9 w (qc (fun i=>xs.getD i 0*ys.getD i 0) n)):=by
 have HD:Hid (∀ i,i<n→∀ w',Below w.heap.size w w'→Calls Tryz.prog 207 #[Z I (i:Int),au (some ⟨bx,0,none⟩),au (some ⟨by',0,none⟩)] w' (vC w' (xs.getD i 0*ys.getD i 0))) :=
  zh fun i hi w' hb=>TF bx by' vx vy xs ys i w' (hx.later hb) (hy.later hb) (hbx.later hb) (hby.later hb) zo zo (ay (k1 i) zo) (ay (k2 i) zo)
 obtain ⟨f,hf⟩:∃ f:Nat→Int,f=fun i=>xs.getD i 0*ys.getD i 0:=⟨_,rfl⟩
 have hfz:∀ i,sz 1000000000 (f i).natAbs≤2000000:=fun i=>by
  rw [hf];have:=tY (xs.getD i 0) (ys.getD i 0);have:=k1 i;have:=k2 i;simp only;omega
 have HFZ:Hid (∀ i,sz 1000000000 (f i).natAbs≤549755813888):=zh fun i=>ay (hfz i) zo
 have HPZ:Hid (∀ i,i≤n→sz 1000000000 (qc f i).natAbs≤549755813888):=zh fun i hi=>by
  have:=CP f _ hfz i;omega
 have HD2:Hid (∀ i,i<n→∀ w',Below w.heap.size w w'→Calls Tryz.prog 207 #[Z I (i:Int),au (some ⟨bx,0,none⟩),au (some ⟨by',0,none⟩)] w' (vC w' (f i))):=by
  rw [hf];exact HD
 rw [← hf];clear hf hfz HD hx hy hbx hby h1 h2 k1 k2;have hP0:f 0=qc f (0+1):=by simp [qc]
 have Hy:=zh hP0;clear hP0;go_enter Tryz.func206,Tryz.ntmps206
 go_wp2_with fail
 refine (HD2.out 0 h0 _ aO).mono ?_;rintro e v1 ⟨v,rfl,hc1,hv⟩;obtain ⟨Fv,UJ,Gv,rfl,HV⟩:=hv;replace HV:=zh HV;rw [Hy.out] at HV ⊢;have BR:=aA.later (aA.alloc (aA.new _ _ _) _) hc1;have bR:=BR.cell;have bQ:=BR.free;have gT:=BR.lt;go_wp2_with fail
 have hbt:=aA.new v1 #[aj Fv UJ Gv,aC (decide (qc f (0+1)<0))] 206;have hbr:=BR.alloc (.cells #[aj Fv UJ Gv,aC (decide (qc f (0+1)<0))] 206 (0,0));have hbw:Below w.heap.size w v1:=Bt aO hc1;have hnd:=gT;clear BR bR bQ gT;obtain ⟨B9,hB9⟩:∃ b,v1.heap.size=b:=⟨_,rfl⟩;rw [hB9] at hbt hnd ⊢;have HB9:=zh hB9;clear hB9
 go_loopw [11] (fun iv wr=>∃ (k:Nat) (pa:Option Addr) (l ca:Nat),iv= Z I (k:Int)∧1≤k∧k≤n∧Hid (aA wr B9 #[aj pa l ca,aC (decide (qc f k<0))] 206)∧Hid (aT wr (aj pa l ca) (qc f k).natAbs)∧Hid (aA wr w.heap.size #[aj none 0 0,aC false] 206)∧Below w.heap.size w wr) (fun iv _=>n - (intOf iv).toNat)
 case atStart=>exact ⟨1,_,_,_,rfl,by omega,by omega,zh hbt,zh aK,zh hbr,bG hbw _⟩
 case round =>
  obtain ⟨k,pa,l,ca,rfl,hk1,hk2,HT,HM,HR,hb⟩:=hrel;have ct:=HT.out.cell;have ft:=HT.out.free;have lt:=HT.out.lt;have cr:=HR.out.cell;have fr:=HR.out.free;have lr:=HR.out.lt;have hne:w.heap.size≠B9:=by omega
  have hne2:B9≠w.heap.size:=by omega
  rcases aH k n with hlt|hge
  ·have HF:=zh (HFZ.out k);have HP:=zh (HPZ.out k zo);have HS:Hid (qc f k+f k=qc f (k+1)):=zh rfl;go_wp2_with fail
   refine (HD2.out k hlt _ hb).mono ?_;rintro e v2 ⟨v,rfl,hc2,hv⟩;obtain ⟨au4,lHX,az2,rfl,HX⟩:=hv;replace HX:=zh HX;have ht2:=HT.out.later hc2;replace ct:=ht2.cell;replace ft:=ht2.free;replace lt:=ht2.lt;have hr2:=HR.out.later hc2;replace HM:=zh (HM.out.later hc2);go_wp2_with fail
   refine ((TD _ _ (qc f k) (f k) _ (bW.dx aK) (bW.dx aK) HP.out HF.out).mono (by rw [HS.out];exact fun _ _ h=>h)).mono ?_;rintro e v3 ⟨v,rfl,hc3,hv⟩;obtain ⟨au3,lHY,az1,rfl,HY⟩:=hv;replace HY:=zh HY;have ht3:=(ht2.alloc _).later hc3;replace ct:=ht3.cell;replace ft:=ht3.free;replace lt:=ht3.lt;have hr3:=(hr2.alloc _).later hc3;have is3:=ht3.AV;clear ht2 hr2 cr fr lr;go_wp2_with fail
   go_roundw
   case rel =>
    refine ⟨k+1,_,_,_,by go_num,by omega,by omega,zh ((ht3.set 0 _).set 1 _),zh ((HY.out.vN is3 zd).vN is3.setCell zd),zh ((hr3.setOther _ hne).setOther _ hne),?_⟩;exact ((Bt (bG (Bt hb hc2) _) hc3).setCell (by simp;omega) _).setCell (by simp;omega) _
   case measure=>exact zM
  ·obtain rfl:k=n:=by omega
   have isr:=HR.out.AV;go_wp2_with fail
   refine bE rfl rfl ((HR.out.set 0 _).set 1 _) Tryz.underlying206 rfl zk ?_;exact ⟨_,rfl,(hb.setCell zi _).setCell zi _,bW.dx ((HM.out.vN isr zd).vN isr.setCell zd)⟩
def F4 (xs ys:List Int):Int:=qc (fun i=>xs.getD i 0*ys.getD i 0) xs.length
theorem Xo (vx vy:Value) (xs ys:List Int) (w:World) (hx:iq w vx xs) (hy:iq w vy ys)
  (h2:ys.length=xs.length) (h0:0<xs.length) (hn:xs.length≤1000) (k1:∀ i,sz 1000000000 (xs.getD i 0).natAbs≤1000000) (k2:∀ i,sz 1000000000 (ys.getD i 0).natAbs≤1000000) :
  Calls Tryz.prog 134 #[vx,vy] w (fun e w'=>∃ v,e= ah v∧Below w.heap.size w w'∧bW w' v (F4 xs ys)):=by
 obtain ⟨a,cap,rfl,hc1,hc2, -⟩:=hx.read;obtain ⟨a',cap',rfl,hc1',hc2', -⟩:=hy.read
 have HS:Hid (∀ bx by' w',Below w.heap.size w w'→aA w' bx #[aj a xs.length cap] 200→aA w' by' #[aj a' ys.length cap'] 200→Calls Tryz.prog 206 #[Z I (xs.length:Int),.func (.func 207) #[] #[au (some ⟨bx,0,none⟩),au (some ⟨by',0,none⟩)],.func (.func 209) #[] #[]] w' (K9 w' (F4 xs ys))) :=
  zh fun bx by' w' hb h3 h4=>RL bx by' _ _ xs ys xs.length w' (hx.later hb) (hy.later hb) h3 h4 rfl h2 h0 hn k1 k2
 obtain ⟨z,Ez⟩:∃ z:Int,Hid (F4 xs ys=z):=⟨_,zh rfl⟩;rw [Ez.out] at HS ⊢;clear hx hy k1 k2 h0 h2;have Kv:∀ (fn:Fn) (first cap:Array Value) (w:World),(Instr.makeFunc fn first cap).run Tryz.prog w= .ok (.func fn first cap) w:=fun _ _ _ _=>rfl;go_enter Tryz.func134,Tryz.ntmps134
 go_wp2_with fail
 refine (HS.out _ _ _ aO aY aY).mono ?_;rintro e v1 ⟨v,rfl,hc1,hv⟩;obtain ⟨Fv,UJ,Gv,rfl,HV⟩:=hv;replace HV:=zh HV;have BR:=aA.later (aA.at2 _ _ _ _ _) hc1;have bR:=BR.cell;have bQ:=BR.free;have gT:=BR.lt;go_wp2_with fail
 refine iX rfl rfl aY Tryz.underlying206 rfl zk ?_;exact ⟨_,rfl,aO,bW.dx aK⟩
end Go.Proofs.matrix
namespace Go.Proofs.matrix
open Go Go.RowKit Go.Shelf Go.SW Go.Num Go.Mem Go.Proofs Go.Dec Go.d9
attribute [local go_sem] Oper.semAt_some
theorem SQ:(Tryz.prog.info? 200).map (fun i=>(i.zero,i.size,i.bytes))=some (some (.slice none 0 0),1,24):=by kernel_rfl
theorem SS:(Tryz.prog.info? 201).map (fun i=>(i.zero,i.size,i.bytes))=some (some (.slice none 0 0),1,24):=by kernel_rfl
abbrev RM:=List (List Rat)
def RM.fr (m:RM):List (List Fr):=m.map fun r=>r.map Fr.of
def sN (r:List Rat):List Int:=r.map (kC (eO r))
def af9 (w:World) (v:Value) (m:RM):Prop:=∃ va na ca vb nb cb,v= aB #[aj va na ca,aj vb nb cb]∧G9 w (aj va na ca) (m.map sN)∧Ho w (aj vb nb cb) (m.map eO)
theorem aA.keep {l:List TypeId} {w w':World} {b:Nat} {cs:Array Value} {T:TypeId} (h:aA w b cs T) (k:Keep l w w') (hT:T∉l):aA w' b cs T:=k _ _ _ hT h
theorem wM {w w':World} {base k:Nat} {e:TypeId} {s:Nat} {v:Value} {xs:List Value} (hown:w.ownsRow base e s v k xs) (hg:w.grownBy w' v.ownBlock):KeepsOthers w w' :=
 ⟨hg.size,fun i o hi ho=>by
  rw [hg.block i (Array.getElem?_eq_some_iff.1 hi).1 ?_]
  ·exact hi
  ·intro he;obtain ⟨-, ⟨rfl, -⟩|⟨g,cap,cur,rfl, -, hgg, -⟩⟩:=hown
   ·cases he
   ·simp only [Value.ownBlock,Option.some.injEq] at he;subst he;rw [hi] at hgg;cases hgg
    cases ho⟩
theorem Ci {β γ:Type} {R:γ→β→Prop} (f:List Rat→γ) (m:RM) {n:Nat} (hn:n=m.length) {rs:List β} (h:qN (fun (i:Fin n) r=>R (f (m.getD i.1 [])) r) (upto n (aG _)) rs):qN R (m.map f) rs:=by
 obtain ⟨h1,h2⟩:=h;rw [jd] at h1;refine ⟨by rw [h1,hn,List.length_map],fun i hi hi'=>?_⟩;have hin:i<n:=by rw [List.length_map] at hi;omega
 have:=h2 i (by rw [jd];exact hin) hi';have e:((upto n (aG _))[i]'(by rw [jd];exact hin))=⟨i,hin⟩:=by simp [upto]
 rw [e] at this;have him:i<m.length:=by omega
 simpa [him] using this
def La (w:World) (Bt:Nat) (m:RM) (n:Nat) (pre:List (Fin n)) (W:World):Prop :=
 ∃ va na ca vb nb cb rs bs,aA W Bt #[aj va na ca,aj vb nb cb] 198∧W.ownsRow w.heap.size 200 1 (aj va na ca) pre.length rs∧W.ownsRow w.heap.size 201 1 (aj vb nb cb) pre.length bs ∧
  qN (fun (i:Fin n) r=>iq W r (sN (m.getD i.1 []))) pre rs∧qN (fun (i:Fin n) r=>aT W r (eO (m.getD i.1 []))) pre bs
theorem La.kept {w:World} {Bt:Nat} {m:RM} {n:Nat} {pre:List (Fin n)} {W W':World} (h:La w Bt m n pre W) (k:Keep [] W W'):La w Bt m n pre W':=by
 obtain ⟨va,na,ca,vb,nb,cb,rs,bs,h1,h2,h3,h4,h5⟩:=h;exact ⟨va,na,ca,vb,nb,cb,rs,bs,k _ _ _ zi h1,jM h2 k zi,jM h3 k zi,h4.mono fun _ _ h=>h.kept k zi zi,h5.mono fun _ _ h=>d9.aT.kept h k zi⟩
def Q7 (n:Nat) (v:Value):Prop:=∀ pa k c s,v= aB #[aj (some pa) k c,s]→n≤pa.block
theorem FY {w:World} {base k n c:Nat} {T:TypeId} {va:Option Addr} {s:Value} {xs:List Value} (h:w.ownsRow base T 1 (aj va n c) k xs):Q7 base (aB #[aj va n c,s]):=by
 intro pa k' c' s' e;simp only [Value.agg.injEq] at e
 have e1:Value.slice va n c= aj (some pa) k' c':=by
  have:=congrArg (fun a=>a[0]?) e
  simpa using this
 obtain ⟨-, ⟨h2, -⟩|⟨g,cap,cur,h3,h4, -⟩⟩:=h
 ·rw [e1] at h2;cases h2
 ·rw [e1] at h3;simp only [Value.slice.injEq,Option.some.injEq] at h3;rw [h3.1];exact h4
theorem Oj (v:Value) (m:RM) (w:World) (h:kN w v m.fr) (hm:m.length≤4) (hq:∀ r∈m,r.length≤4∧∀ q∈r,iG q=true) :
  Calls Tryz.prog 131 #[v] w fun e w'=>∃ v,e= ah v∧Below w.heap.size w w'∧af9 w' v m∧Q7 w.heap.size v:=by
 obtain ⟨ir,ir1,ir2,ir3,ir4⟩:=info_parts SQ;obtain ⟨im,im1,im2,im3,im4⟩:=info_parts SS;obtain ⟨rs,hR,hlen,hF⟩:=h;have hlm:rs.length=m.length:=hlen.trans (List.length_map _)
 have NA:Hid (∀ i (h:i<rs.length),qM w 38 rs[i] ((m.getD i []).map Fr.of)∧(m.getD i []).length≤4∧∀ q∈m.getD i [],iG q=true):=zh fun i hi=>by
  have him:i<m.length:=by omega
  have e:m.getD i []=m[i]:=by simp [him]
  rw [e];refine ⟨?_,hq _ (bN _)⟩;have:=hF i hi (by rw [← hlen];exact hi)
  simpa [RM.fr] using this
 have HR:=zh hR;have HLM:=zh hlm;have hR2:=hR;obtain ⟨a,cap,rfl, -⟩:=hR2;clear hR hF hlen hlm hq;refine (callsIn_wide (n:=3)).1 ?_;refine callsIn_of_wp_marks Tryz.func131 rfl trivial ?_ rfl;simp only [Tryz.ntmps131,List.size_toArray,aV,List.length_nil,Nat.reduceAdd,Nat.reduceSub,Array.replicate_succ,Array.replicate_zero,List.push_toArray,List.append_toArray,List.nil_append,bB]
 gi_wp2_with (refine ⟨trivial,?_⟩;gi_at_call 197;refine (EB Fence.wide 2 trivial rfl _ _ _ _).mono ?_;rintro e w' ⟨rfl,rfl⟩)
 obtain ⟨W0,hW0⟩:∃ W0,((w.alloc (.cells #[aj none 0 0,aj none 0 0] 198)).alloc (.cells #[aj none 0 0,aj none 0 0] 198)).alloc (.cells #[aj a rs.length cap] 126)=W0:=⟨_,rfl⟩;have hB0:Below w.heap.size w W0:=by rw [← hW0];exact aO
 have hbx0:aA W0 w.heap.size #[aj none 0 0,aj none 0 0] 198:=by rw [← hW0];exact aY
 have Ja:aA W0 (w.heap.size+1) #[aj none 0 0,aj none 0 0] 198:=by rw [← hW0];exact aY
 have o8:aA W0 (w.heap.size+1+1) #[aj a rs.length cap] 126:=by rw [← hW0];exact aY
 rw [hW0]
 refine wpIn_rangeFunc_ownF (α:=Fin rs.length) rfl zo (gf:=264) (lb:=#[au (some ⟨w.heap.size+1+1,0,none⟩)]) rfl trivial (enters_of Tryz.func264 zk rfl)
  (wD Fence.wide 2 trivial rfl zo (w.heap.size+1+1) w.heap.size _ rs w _ o8.lt hB0.size ((o8.cell 0).trans rfl) HR.out (aG _) hB0) belowK_t (belowK_b hB0.size) (Below.refl _ _) (fun _=>rfl)
  (fun pre W=>(La w (w.heap.size+1) m rs.length pre W∧aA W w.heap.size #[aj none 0 0,aj none 0 0] 198)∧Below w.heap.size w W)
  (fun _ _ _=>False)
  (OwnFrom.and (Own.from (fun s A B row hs hg hr=>⟨hs.1.kept (Keep.others hg hr),gD hs.2 hg hr⟩) _) (ownFrom_below (aG _) hB0.size))
  (fun _ _ _ _ _ hs _ _=>hs)
  ⟨⟨⟨_,_,_,_,_,_,[],[],Ja,World.ownsRow_nil _ _ _ _,World.ownsRow_nil _ _ _ _,qN.nil,qN.nil⟩,hbx0⟩,hB0⟩ ?a1 ?assign ?body ?done ?stop
 case assign =>
  intro l x W K hK;unfold enc
  gi_wp2
  exact hK
 case body =>
  rintro l pre x W ⟨⟨hI,hb0⟩,hB⟩ hpl;obtain ⟨va,na,ca,vb,nb,cb,xs,bs,hT,ho1,ho2,h4,h5⟩:=hI;obtain ⟨hfr,hq1,hq2⟩:=NA.out x.1 x.2;have hpn:pre.length<4:=by have:=HLM.out;omega
  have hx0:sN (m.getD x.1 [])=(m.getD x.1 []).map (kC (eO (m.getD x.1 []))):=rfl;obtain ⟨a',cap',hre, -⟩:=hfr.read;have HCM:=zh (Cb rs[x.1] (m.getD x.1 []) 38 W (hfr.later hB) hq2 zo);rw [hre] at HCM;clear hfr hq1 hq2;generalize rs[x.1]=rx at *;subst hre;unfold AQ at HCM;rw [← hx0] at HCM;have H4:=zh h4;have H5:=zh h5;have Yi:=zh ho1;have oL:=zh ho2;clear h4 h5 ho1 ho2 hx0;have hlr:((m.getD x.1 []).map Fr.of).length=(m.getD x.1 []).length:=List.length_map _;rw [hlr] at HCM ⊢;have HX:Hid (∃ r:List Rat,m.getD x.1 []=r):=zh ⟨_,rfl⟩;obtain ⟨r,hr⟩:=HX.out;rw [hr] at HCM ⊢;have HRR:=zh hr;clear hr HX hlr
  gi_wp2_with (first
   | (refine ⟨trivial,?_⟩;gi_at_call 132;refine (CallsIn.inRound l (callsIn_wide.2 HCM.out)).mono ?_;rintro e w1 ⟨vt,vd,rfl,hc1,hv1,hv2⟩;obtain ⟨at',ct',rfl, -⟩:=hv1.read;obtain ⟨ad,nd,cd,rfl⟩:=hv2.slice;have HV1:=zh hv1;have Ig:=zh hv2;clear hv1 hv2;have hT1:=hT.later hc1;have cT:=hT1.cell;have fT:=hT1.free;have lT:=hT1.lt)
   | (gi_at_builtin;refine wpListIn_append_own _ rfl (.tmp 18) (.tmp 20) 195 rfl w.heap.size 200 ir (aj none 0 0) 1 24 Tryz.underlying195 ir1 ir2 ir3 ir4 rfl zd _ _ _ rfl ((uw Yi.out hc1).alloc _) ⟨w1.heap.size,0,none⟩ 1 1 [aj at' (sN r).length ct'] rfl rfl (by intro t u ht;match t,ht with|0,ht=>simp at ht;subst ht;simp [Addr.add]) (by intro u hu;simp at hu;subst hu;rfl) (by unfold maxLen;omega) zo (by have:=hB.size;have:=hc1.size;simp;omega) ?_))
  intro v2 w2 hown2 hgrow2 _;obtain ⟨g2,c2,rfl⟩:=ownsRow_succ hown2;have k2:Keep [200] w1 w2:=Keep.trans (Keep.of_below aO) (Keep.grown ((uw Yi.out hc1).alloc _) hgrow2);have K2:Hid (Keep [200] W w2):=zh (Keep.trans (Keep.of_below hc1) k2);have W9:=k2 _ _ _ zd hT1;replace cT:=W9.cell;replace fT:=W9.free;replace lT:=W9.lt;have AV:=W9.AV;have Tj:Below w.heap.size w w1:=hB.trans (hc1.mono hB.size);have hbw2:Below w.heap.size w w2:=(bG Tj _).grown hgrow2 (by have:=Tj.size;simp;omega) (fun k hk=>(Yi.out.lt k hk).1);have ko2:KeepsOthers w1 w2:=(KeepsOthers.alloc _ _).trans (wM ((uw Yi.out hc1).alloc _) hgrow2);have am5:Below w.heap.size W w2:=(Below.alloc (hc1.mono hB.size) Tj.size _).grown hgrow2 (by have:=Tj.size;simp;omega) (fun k hk=>(Yi.out.lt k hk).1);have HW2:=zh hown2;have KV:=zh k2
  have QZ:Hid ((w2.setCell ⟨w.heap.size+1,0,none⟩ (aj (some ⟨g2,0,none⟩) (pre.length+1) c2)).ownsRow w.heap.size 201 1 (aj vb nb cb) pre.length bs):=zh (jM (jM oL.out K2.out zd) (Keep.setCell AV) zd);have as0:=hbw2.size;clear hown2 hgrow2 k2 hT1
  gi_wp2_with (gi_at_builtin;refine wpListIn_append_own _ rfl (.tmp 24) (.tmp 26) 196 rfl w.heap.size 201 im (aj none 0 0) 1 24 Tryz.underlying196 im1 im2 im3 im4 rfl zd _ _ _ rfl (QZ.out.alloc _) ⟨w2.heap.size,0,none⟩ 1 1 [aj ad nd cd] rfl rfl (by intro t u ht;match t,ht with|0,ht=>(simp at ht;subst ht;exact ((aA.uy (b:=w2.heap.size) zi).cell 0).trans rfl)) (by intro u hu;simp at hu;subst hu;rfl) (by unfold maxLen;omega) zo (by simp;omega) ?_)
  intro v3 w3 hown3 hgrow3 _;obtain ⟨g3,c3,rfl⟩:=ownsRow_succ hown3;have k3:Keep [201] (w2.setCell ⟨w.heap.size+1,0,none⟩ (aj (some ⟨g2,0,none⟩) (pre.length+1) c2)) w3:=Keep.trans (Keep.of_below aO) (Keep.grown (QZ.out.alloc _) hgrow3);have hT3:=k3 _ _ _ zd (W9.set 0 (aj (some ⟨g2,0,none⟩) (pre.length+1) c2));replace cT:=hT3.cell;replace fT:=hT3.free;replace lT:=hT3.lt;have SN:=hT3.AV;have am0:Below w.heap.size w w3:=(bG (hbw2.setCell zi _) _).grown hgrow3 (by simp;omega) (fun k hk=>(QZ.out.lt k hk).1);have ko3:KeepsOthers (w2.setCell ⟨w.heap.size+1,0,none⟩ (aj (some ⟨g2,0,none⟩) (pre.length+1) c2)) w3:=(KeepsOthers.alloc _ _).trans (wM (QZ.out.alloc _) hgrow3);have am4:Below w.heap.size W w3:=(Below.alloc (am5.setCell zi _) (by simp;omega) _).grown hgrow3 (by simp;omega) (fun k hk=>(QZ.out.lt k hk).1);have HW3:=zh hown3
  have K3:Hid (Keep [201] (w2.setCell ⟨w.heap.size+1,0,none⟩ (aj (some ⟨g2,0,none⟩) (pre.length+1) c2)) w3):=zh k3;clear hown3 hgrow3 k3
  gi_wp2
  have al9:=aA.keep (hb0.later hc1) KV.out zd;have al8:=al9.setOther (aj (some ⟨g2,0,none⟩) (pre.length+1) c2) (a:=⟨w.heap.size+1,0,none⟩) zi;have al7:=aA.keep al8 K3.out zd;have hbz:=al7.setOther (aj (some ⟨g3,0,none⟩) (pre.length+1) c3) (a:=⟨w.heap.size+1,1,none⟩) zi;refine ⟨((((fC hc1).trans ko2).trans (KeepsOthers.setCell _ _ _)).trans ko3).trans (KeepsOthers.setCell _ _ _),am4.setCell zi _,⟨⟨_,_,_,_,_,_,xs++[aj at' (sN r).length ct'],bs++[aj ad nd cd],hT3.set 1 _,?_,?_,?_,?_⟩,hbz⟩,am0.setCell zi _⟩
  ·rw [List.length_append];exact jM (jM (jM HW2.out (Keep.setCell AV) zd) K3.out zd) (Keep.setCell SN) zd
  ·rw [List.length_append];exact jM HW3.out (Keep.setCell SN) zd
  ·have kk:Keep [200,198,201] w1 (w3.setCell ⟨w.heap.size+1,1,none⟩ (aj (some ⟨g3,0,none⟩) (pre.length+1) c3)) :=
    (((KV.out.mono zi).trans ((Keep.setCell AV).mono zi)).trans (K3.out.mono zi)).trans ((Keep.setCell SN).mono zi)
   refine qN.snoc ((H4.out.mono fun _ _ h=>h.later hc1).mono fun _ _ h=>iq.kept h kk zd zd) ?_;rw [HRR.out];exact iq.kept HV1.out kk zd zd
  ·have kk:Keep [200,198,201] w1 (w3.setCell ⟨w.heap.size+1,1,none⟩ (aj (some ⟨g3,0,none⟩) (pre.length+1) c3)) :=
    (((KV.out.mono zi).trans ((Keep.setCell AV).mono zi)).trans (K3.out.mono zi)).trans ((Keep.setCell SN).mono zi)
   refine qN.snoc ((H5.out.mono fun _ _ h=>h.later hc1).mono fun _ _ h=>d9.aT.kept h kk zd) ?_;rw [HRR.out];exact d9.aT.kept Ig.out kk zd
 case done =>
  rintro D ys W hD rfl ⟨⟨hI,hb0⟩,hB⟩ hK;obtain ⟨va,na,ca,vb,nb,cb,xs,bs,hT,ho1,ho2,h4,h5⟩:=hI;have cT:=hT.cell;have fT:=hT.free;have c0:=hb0.cell;have f0:=hb0.free;have is0:=hb0.AV;have H4:=zh (Ci (R:=fun zs r=>iq W r zs) sN m HLM.out h4);have H5:=zh (Ci (R:=fun d r=>aT W r d) eO m HLM.out h5);have Yi:=zh (Row.jN ho1);have oL:=zh (Row.jN ho2);have HFT:=zh (FY (s:=aj vb nb cb) ho1);clear h4 h5 ho1 ho2
  gi_wp2
  have hK':=((KeepsOthers.setCell W ⟨w.heap.size,0,none⟩ (aj va na ca)).trans (KeepsOthers.setCell _ ⟨w.heap.size,1,none⟩ (aj vb nb cb))).same D _ hK rfl;refine ⟨by simp,.inl ⟨_,_,rfl,run_takeDeferred hK',?_⟩⟩
  have hk5:Keep [198] W (((W.setCell ⟨w.heap.size,0,none⟩ (aj va na ca)).setCell ⟨w.heap.size,1,none⟩ (aj vb nb cb)).putObj D (.deferred none)) :=
   ((Keep.setCell is0).trans (Keep.setCell is0.setCell)).trans ((Keep.others (grownBy_putObj' _ D (.deferred none)) (fun r e=>by cases e;exact ⟨_,hK',rfl⟩)).mono zi)
  have hb3:=gD ((hb0.set 0 (aj va na ca)).set 1 (aj vb nb cb)) (grownBy_putObj' _ D (.deferred none)) (fun r e=>by cases e;exact ⟨_,hK',rfl⟩);refine ⟨_,results_cell_row rfl _ _ w.heap.size 198 _ (0,0) _ rfl hb3 Tryz.underlying198 rfl zk,⟨_,rfl,?_,⟨_,_,_,_,_,_,rfl,⟨xs,d9.Row.kept Yi.out hk5 zd,H4.out.mono fun _ _ h=>iq.kept h hk5 zd zd⟩,⟨bs,d9.Row.kept oL.out hk5 zd,H5.out.mono fun _ _ h=>d9.aT.kept h hk5 zd⟩⟩,HFT.out⟩⟩;exact ((hB.setCell zi _).setCell zi _).trans (belowK_b (w:=w) (aG _) _ D _ _ (by have:=hB0.size;omega) hK' rfl rfl)
 case stop =>
  rintro D c pre W _ _ h _;exact h.elim
theorem CG (v:Value) (m:RM) (w:World) (h:kN w v m.fr) (hm:m.length≤4) (hq:∀ r∈m,r.length≤4∧∀ q∈r,iG q=true) :
  Calls Tryz.prog 131 #[v] w fun e w'=>∃ v,e= ah v∧Below w.heap.size w w'∧af9 w' v m :=
 (Oj v m w h hm hq).mono fun _ _ ⟨v,h1,h2,h3,_⟩=>⟨v,h1,h2,h3⟩
end Go.Proofs.matrix
