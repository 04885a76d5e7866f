/- Lemmas for the proof. No condition. -/
import Derived.Test.YtneajphgfdlmhaaGreatDoorQB07
import Derived.ControlIn
set_option linter.unusedVariables false
set_option linter.unusedSimpArgs false
set_option maxRecDepth 100000
set_option maxHeartbeats 16000000
open Go.Ending renaming returned → aj
open Go.IntKind renaming i64 → I
open Go.Value renaming agg → au, bool → ak, int → Z, slice → ah, tuple → aG
open List renaming all_eq_true → dX, range → dz, take_length → fG, take_succ_eq_append_getElem → fq
open Nat renaming div_add_mod → dF, div_lt_iff_lt_mul → dw, eq_zero_or_pos → aV, le_refl → aD, lt_of_lt_of_le → aI, lt_or_ge → aO, mod_lt → fC, mul_comm → aL, mul_le_mul → dP, mul_le_mul_left → aR, mul_le_mul_right → aZ, pow_add → fQ, zero_add → dK
namespace Go.Proofs.bits
open Go Go.RowKit Go.SW Go.Num Go.Mem Go.Proofs Go.Shelf
theorem TQ {y:Nat} (h0:0<y) (h:y<18446744073709551616):∃ s:Nat,s≤63∧(64:Int) - (Lib.bitLen y:Int)=(s:Int)∧9223372036854775808≤y*2^s∧y*2^s<18446744073709551616:=by
 obtain ⟨h1,h2,h3⟩:=Lib.bitLenAux_bounds 64 y h zo;have h4:=Lib.bitLen_le y 64 zo h;have e:Lib.bitLenAux 64 y=Lib.bitLen y:=rfl;rw [e] at h1 h2 h3;generalize Lib.bitLen y=b at *;refine ⟨64 - b,by omega,by omega,?_,?_⟩
 ·have:2^(b - 1)*2^(64 - b)≤y*2^(64 - b):=aZ _ h2;rw [← fQ,show b - 1+(64 - b)=63 by omega] at this
  simpa using this
 ·have:y*2^(64 - b)<2^b*2^(64 - b):=Nat.mul_lt_mul_of_pos_right h3 (Nat.pow_pos zo);rw [← fQ,show b+(64 - b)=64 by omega] at this
  simpa using this
def Ya (Y1 Y0 L1 L0:Nat):Prop:=2147483648≤Y1∧Y1<4294967296∧Y0<4294967296∧L1<4294967296∧L0<4294967296
theorem ad1 {Y1 Y0 U d q r:Nat} (h:F3 4294967296 Y1 Y0 U d q r) (h1:2147483648≤Y1) (hU:U<18446744073709551616):q<18446744073709551616:=by
 have e:=h.h1
 rcases aV q with h|h
 ·omega
 ·have:=Nat.le_mul_of_pos_right q (show 0<Y1 by omega);omega
theorem rM {Y1 Y0 L1 L0 U d q r:Nat} (h:F3 4294967296 Y1 Y0 U d q r) (hr:r<4294967296) (hb:Ya Y1 Y0 L1 L0) (hU:U<Y1*4294967296+Y0) (hd:d<4294967296) (c:4294967296≤q∨4294967296*r+d<q*Y0) :
  ∃ q' r':Nat,Hid (F3 4294967296 Y1 Y0 U d q' r')∧Hid (q'<q)∧IntKind.u64.wrap ((q:Int) - 1)=(q':Int)∧IntKind.u64.wrap ((r:Int)+(Y1:Int))=(r':Int):=by
 unfold Ya at hb;have hq:=ad1 h hb.1 zo;obtain ⟨hd2,hq1⟩:=h.step zo hd hU c;refine ⟨_,_,zh hd2,zh zo,?_,?_⟩
 ·rw [IntKind.wrap_u64];omega
 ·rw [IntKind.wrap_u64];omega
theorem sj {Y1 Y0 L1 L0 d q r:Nat} (hq:q<4294967296) (hr:r<4294967296) (hb:Ya Y1 Y0 L1 L0) (hd:d<4294967296) :
  ∃ T V:Nat,Hid (q*Y0=T)∧Hid (4294967296*r+d=V)∧IntKind.u64.wrap ((q:Int)*(Y0:Int))=(T:Int)∧IntKind.u64.wrap (IntKind.u64.wrap (4294967296*(r:Int))+(d:Int))=(V:Int):=by
 unfold Ya at hb;refine ⟨_,_,zh rfl,zh rfl,?_,?_⟩
 ·have:q*Y0≤4294967295*4294967295:=dP zo zo;rw [← Int.natCast_mul,IntKind.wrap_u64];generalize q*Y0=T at *;omega
 ·rw [IntKind.wrap_u64,IntKind.wrap_u64];omega
theorem Fe {U d Y q:Nat} (hY:0<Y) (hq:q=(U*4294967296+d) / Y) (hd:d<4294967296) (Xr:Y<18446744073709551616) :
  IntKind.u64.wrap (IntKind.u64.wrap (IntKind.u64.wrap ((U:Int)*4294967296)+(d:Int)) - IntKind.u64.wrap ((q:Int)*(Y:Int)))=(((U*4294967296+d)%Y:Nat):Int):=by
 have h:=dF (U*4294967296+d) Y;have hm:=fC (U*4294967296+d) hY;rw [← hq] at h;have e:(q:Int)*(Y:Int)=((Y*q:Nat):Int):=by rw [Int.natCast_mul,Int.mul_comm]
 rw [e];generalize Y*q=T at *;generalize (U*4294967296+d)%Y=V at *;rw [IntKind.wrap_u64,IntKind.wrap_u64,IntKind.wrap_u64,IntKind.wrap_u64];omega
theorem rR {U L1 L0 Y Y1 Y0 q:Nat} (hq:q=(U*4294967296+L1) / (Y1*4294967296+Y0)) (hY:Y1*4294967296+Y0=Y) (hb:Ya Y1 Y0 L1 L0) (hUY:U<Y) (Xr:Y<18446744073709551616) :
  ∃ W q0 r0:Nat,Hid (W=(U*4294967296+L1)%Y)∧Hid (W<Y)∧IntKind.u64.wrap (IntKind.u64.wrap (IntKind.u64.wrap ((U:Int)*4294967296)+(L1:Int)) - IntKind.u64.wrap ((q:Int)*(Y:Int)))=(W:Int)∧IntKind.u64.wrap ((W:Int) / (Y1:Int))=(q0:Int)∧IntKind.u64.wrap ((W:Int) - IntKind.u64.wrap ((q0:Int)*(Y1:Int)))=(r0:Int)∧Hid (r0<4294967296)∧Hid (∀ d,d<4294967296→F3 4294967296 Y1 Y0 W d q0 r0):=by
 unfold Ya at hb;rw [hY] at hq;have YR:0<Y:=by omega
 have h1:=Fe YR hq hb.2.2.2.1 Xr;have hm:=fC (U*4294967296+L1) YR;obtain ⟨W,eW⟩:∃ W,(U*4294967296+L1)%Y=W:=⟨_,rfl⟩;rw [eW] at h1 hm;refine ⟨W,W / Y1,W - W / Y1*Y1,zh eW.symm,zh hm,h1,?_,?_,zh ?_,zh fun d hd=>F3.start zo zo hd⟩
 ·rw [← Int.natCast_ediv,IntKind.wrap_u64];have:=Nat.div_le_self W Y1;generalize W / Y1=q at *;omega
 ·have:=Nat.div_mul_le_self W Y1;rw [← Int.natCast_mul,IntKind.wrap_u64,IntKind.wrap_u64];omega
 ·have h2:=dF W Y1;have h3:=fC W (show 0<Y1 by omega);rw [aL] at h2;omega
theorem jL {U L1 L0 Y Y1 Y0 q q0 W:Nat} (hq:q=(U*4294967296+L1) / (Y1*4294967296+Y0)) (hq0:q0=(W*4294967296+L0) / (Y1*4294967296+Y0)) (hW:W=(U*4294967296+L1)%Y) (hb:Ya Y1 Y0 L1 L0) (hY:Y1*4294967296+Y0=Y) (Xr:Y<18446744073709551616) (hN:(U*4294967296*4294967296+L1*4294967296+L0) / Y<18446744073709551616) :
  IntKind.u64.wrap (IntKind.u64.wrap ((q:Int)*4294967296)+(q0:Int))=(((U*4294967296*4294967296+L1*4294967296+L0) / Y:Nat):Int)∧IntKind.u64.wrap (IntKind.u64.wrap (IntKind.u64.wrap ((W:Int)*4294967296)+(L0:Int)) - IntKind.u64.wrap ((q0:Int)*(Y:Int)))=(((U*4294967296*4294967296+L1*4294967296+L0)%Y:Nat):Int):=by
 unfold Ya at hb;rw [hY] at hq hq0;have YR:0<Y:=by omega
 obtain ⟨h1,h2⟩:=XG (b:=4294967296) (un:=U) (d1:=L1) (d0:=L0) YR;rw [← hq,← hW,← hq0] at h1;rw [← hW] at h2;refine ⟨?_,?_⟩
 ·rw [← h1] at hN ⊢;rw [IntKind.wrap_u64,IntKind.wrap_u64];omega
 ·rw [Fe YR hq0 hb.2.2.2.2 Xr,h2]
theorem VE (hi lo y:Nat) (hy:hi<y) (y64:y<18446744073709551616) (Xh:lo<18446744073709551616) (w:World) :
  Calls Tryz.prog 178 #[Z .u64 (hi:Int),Z .u64 (lo:Int),Z .u64 (y:Int)] w (fun e w'=>e= aj (aG #[Z .u64 (((hi*18446744073709551616+lo) / y:Nat):Int),Z .u64 (((hi*18446744073709551616+lo)%y:Nat):Int)])∧Below w.heap.size w w'):=by
 have q1:¬ (y:Int)=0:=by omega
 have q2:¬ (y:Int)≤(hi:Int):=by omega
 by_cases h0:hi=0
 ·subst h0;go_enter Tryz.func178,Tryz.ntmps178
  go_wp2_with fail
  refine aJ [(.pure,0),(.pure,1),(.pure,2),(.pure,3),(.pure,4),(.pure,5),(.fin,6),(.fin,7)] zk zk zR zP ?_;refine Wk.out ?_
  (iterate 6 refine zU ?_)
  refine rE [_,_] rfl (fun wf hbf=>?_);go_wp2_with fail
  go_ret2
  have e1:IntKind.u64.wrap ((lo:Int) / (y:Int))=(((0*18446744073709551616+lo) / y:Nat):Int):=by
   rw [Nat.zero_mul,dK,IntKind.wrap_u64];have:=Nat.div_le_self lo y;rw [← Int.natCast_ediv];generalize lo / y=q at *;omega
  have e2:(lo:Int)%(y:Int)=(((0*18446744073709551616+lo)%y:Nat):Int):=by
   rw [Nat.zero_mul,dK];omega
  rw [e1,e2];exact ⟨rfl,((Below.refl _ w).drew.trans (hbf.mono (aD _)))⟩
 ·obtain ⟨s,hs,e1,e2,e3⟩:=TQ (y:=y) zo y64;have LZ:=zh (fun W=>(Tryz.bits_LeadingZeros64 (y:Int) W zo zo));rw [Int.toNat_natCast,e1] at LZ;have q3:¬ (hi:Int)=0:=by omega
  obtain ⟨hN,hlt⟩:=shifted (hi:=hi) hs Xh;have hm:min s 64=s:=by omega
  have hp2:0<2^s:=Nat.pow_pos zo;have hw:IntKind.u64.wrap (s:Int)=(s:Int):=by rw [IntKind.wrap_u64];omega
  have hAY:hi*2^s+2^s≤y*2^s:=by
   have:=aZ (2^s) hy;rw [Nat.succ_mul] at this;exact this
  have cY:(y:Int)*2^s=((y*2^s:Nat):Int):=by simp
  have cA:(hi:Int)*2^s=((hi*2^s:Nat):Int):=by simp
  have cL:(lo:Int)*2^s=((lo*2^s:Nat):Int):=by simp
  have cB:(lo:Int) / 2^(64 - s)=((lo / 2^(64 - s):Nat):Int):=by simp
  have hOr:bits BinOp.or IntKind.u64 ((hi*2^s:Nat):Int) ((lo / 2^(64 - s):Nat):Int)=((hi*2^s+lo / 2^(64 - s):Nat):Int):=by
   rw [bits_or_u64_nat _ _ zo (by have:=Nat.div_le_self lo (2^(64 - s));omega)]
   congr 1
   rw [aL hi];exact (Nat.two_pow_add_eq_or_of_lt hlt hi).symm
  have hyd:∀ a:Nat,a / y=a*2^s / (y*2^s)∧a%y=a*2^s%(y*2^s) / 2^s:=fun a=>by
   have hp:0<2^s:=Nat.pow_pos zo;refine ⟨(Nat.mul_div_mul_right _ _ hp).symm,?_⟩;rw [Nat.mul_mod_mul_right,Nat.mul_div_cancel _ hp]
  have hNB:(hi*18446744073709551616+lo) / y<18446744073709551616:=by
   rw [dw zo];omega
  rw [(hyd _).1,← hN] at hNB;rw [(hyd _).1,(hyd _).2,← hN];have cS:∀ a:Nat,(a:Int) / 2^s=((a / 2^s:Nat):Int):=fun a=>by simp
  have YR:2^63≤y*2^s:=e2;obtain ⟨Y,eY⟩:∃ Y,y*2^s=Y:=⟨_,rfl⟩;obtain ⟨A,eA⟩:∃ A,hi*2^s=A:=⟨_,rfl⟩;obtain ⟨B,eB⟩:∃ B,lo / 2^(64 - s)=B:=⟨_,rfl⟩;obtain ⟨L,eL⟩:∃ L,lo*2^s=L:=⟨_,rfl⟩;rw [eY,eA] at hAY;rw [eY] at e2 e3 cY YR;rw [eA] at cA;rw [eL] at cL;rw [eB] at cB hlt;rw [eA,eB] at hOr;rw [eY,eA,eB,eL];rw [eY,eA,eB,eL] at hNB;obtain ⟨L',eL'⟩:∃ L',L%18446744073709551616=L':=⟨_,rfl⟩;obtain ⟨U,eU⟩:∃ U,A+B=U:=⟨_,rfl⟩;rw [eU] at hOr;rw [eL',eU];rw [eL',eU] at hNB;have hUY:U<Y:=by omega
  have w1:IntKind.u64.wrap (Y:Int)=(Y:Int):=by rw [IntKind.wrap_u64];omega
  have w2:IntKind.u64.wrap (A:Int)=(A:Int):=by rw [IntKind.wrap_u64];omega
  have w3:IntKind.u64.wrap (L:Int)=(L':Int):=by rw [IntKind.wrap_u64];omega
  have a1:bits BinOp.and IntKind.u64 (Y:Int) 4294967295=((Y%4294967296:Nat):Int):=Mul64.maskN Y zo;have a2:bits BinOp.and IntKind.u64 (L':Int) 4294967295=((L'%4294967296:Nat):Int):=Mul64.maskN L' zo;have d1:(Y:Int) / 4294967296=((Y / 4294967296:Nat):Int):=by omega
  have d2:(L':Int) / 4294967296=((L' / 4294967296:Nat):Int):=by omega
  have Xq:Y / 4294967296*4294967296+Y%4294967296=Y:=by rw [aL];exact dF Y 4294967296
  obtain ⟨Y1,eY1⟩:∃ Y1,Y / 4294967296=Y1:=⟨_,rfl⟩;obtain ⟨Y0,eY0⟩:∃ Y0,Y%4294967296=Y0:=⟨_,rfl⟩;obtain ⟨L1,eL1⟩:∃ L1,L' / 4294967296=L1:=⟨_,rfl⟩;obtain ⟨L0,eL0⟩:∃ L0,L'%4294967296=L0:=⟨_,rfl⟩;have b1:2147483648≤Y1∧Y1<4294967296∧Y0<4294967296∧L1<4294967296∧L0<4294967296:=by omega
  rw [eY1] at d1 Xq;rw [eY0] at a1 Xq;rw [eL1] at d2;rw [eL0] at a2;rw [eL1,eL0];rw [eL1,eL0] at hNB;obtain ⟨hst⟩:Nonempty (F3 4294967296 Y1 Y0 U L1 (U / Y1) (U - U / Y1*Y1)):=⟨F3.start zo zo zo⟩
  have hQ:IntKind.u64.wrap ((U:Int) / (Y1:Int))=((U / Y1:Nat):Int):=by
   rw [← Int.natCast_ediv,IntKind.wrap_u64];have:=Nat.div_le_self U Y1;generalize U / Y1=q at *;omega
  have hr1:=Nat.div_mul_le_self U Y1
  have hr2:U - U / Y1*Y1<Y1:=by
   have:=dF U Y1;have:=fC U (show 0<Y1 by omega);rw [aL] at hr1 ⊢;omega
  have hR:IntKind.u64.wrap ((U:Int) - IntKind.u64.wrap (((U / Y1:Nat):Int)*(Y1:Int)))=((U - U / Y1*Y1:Nat):Int):=by
   rw [← Int.natCast_mul,IntKind.wrap_u64,IntKind.wrap_u64];omega
  obtain ⟨q,eq⟩:∃ q,U / Y1=q:=⟨_,rfl⟩;obtain ⟨r,er⟩:∃ r,U - U / Y1*Y1=r:=⟨_,rfl⟩;rw [er,eq] at hst hR;rw [eq] at hQ;rw [er] at hr2;have e3':=e3;have HST:=zh hst;have Yn:=zh hNB;have HB1:Hid (Ya Y1 Y0 L1 L0):=zh b1;have hz:¬ (Y1:Int)=0:=by omega
  have HUY:=zh hUY;have Bh:=zh Xq;clear hNB y64 Xh hst hN hlt hAY hyd e1 e2 e3 hr1 er eq b1 hUY Xq eY1 eY0 eL1 eL0 eU eL' eY eA eB eL YR;go_enter Tryz.func178,Tryz.ntmps178
  go_wp2_with fail
  refine (LZ.out _).mono ?_;rintro e w' ⟨rfl,rfl⟩;go_wp2_with fail
  have RL1:Hid (r<4294967296):=zh (by have:=HB1.out.2.1;omega);have R4:=zh e3';have ST1:=HST;have vR:=zh (Below.refl w'.heap.size w');clear hr2 HST
  go_loopw [15,16] (fun qv rv wr=>∃ q r:Nat,qv= Z .u64 (q:Int)∧rv= Z .u64 (r:Int)∧Hid (F3 4294967296 Y1 Y0 U L1 q r)∧Hid (r<4294967296)∧Hid (Below w'.heap.size w' wr)) (fun qv _ _=>(intOf qv).toNat)
  case atStart=>exact ⟨q,r,rfl,rfl,ST1,RL1,vR⟩
  case round =>
   clear ST1 RL1 vR;obtain ⟨q,r,rfl,rfl,HST,Vw,vR⟩:=hrel;have HT:=zh (rM HST.out Vw.out HB1.out (by rw [Bh.out];exact HUY.out) HB1.out.2.2.2.1)
   rcases aO q 4294967296 with h1|h1
   ·have g1:decide ((4294967296:Int)≤(q:Int))=false:=decide_eq_false zo;obtain ⟨T,V,RF,HE2,m1,m2⟩:=sj h1 Vw.out HB1.out HB1.out.2.2.2.1;clear h1
    rcases aO V T with h2|h2
    ·have g2:(V:Int)<(T:Int):=by omega
     obtain ⟨q',r',HD,HL,w1,w2⟩:=HT.out (.inr (by rw [RF.out,HE2.out];exact h2));clear h2
     rcases aO r' 4294967296 with h3|h3
     ·have g3:decide ((4294967296:Int)≤(r':Int))=false:=decide_eq_false zo;have NJ:=zh h3;clear h3;go_wp2_with fail
      go_roundw
      case rel=>exact ⟨q',r',rfl,rfl,HD,NJ,vR⟩
      case measure=>have:=HL.out;simp [intOf];omega
     ·have g3:decide ((4294967296:Int)≤(r':Int))=true:=decide_eq_true zo;have HQ:=zh (HD.out.brk (aI zo HB1.out.1) zo HB1.out.2.2.1 ((by rw [Bh.out];exact HUY.out)) h3);clear h3;obtain ⟨W,q0,r0,HW,Vu,x1,x2,x3,Y3,zH⟩:=rR HQ.out Bh.out HB1.out HUY.out R4.out;have Ry:=HQ;have ST2:=zh (zH.out L0 HB1.out.2.2.2.2);clear HQ zH;go_wp2_with fail
      go_loopw [18,16] (fun qv rv wr=>∃ q r:Nat,qv= Z .u64 (q:Int)∧rv= Z .u64 (r:Int)∧Hid (F3 4294967296 Y1 Y0 W L0 q r)∧Hid (r<4294967296)∧Hid (Below w'.heap.size w' wr)) (fun qv _ _=>(intOf qv).toNat)
      case atStart=>exact ⟨q0,r0,rfl,rfl,ST2,Y3,vR⟩
      case round =>
       clear ST2 Y3 vR;obtain ⟨q,r,rfl,rfl,HST,Vw,vR⟩:=hrel;have HT:=zh (rM HST.out Vw.out HB1.out (by rw [Bh.out];exact Vu.out) HB1.out.2.2.2.2)
       rcases aO q 4294967296 with h1|h1
       ·have g1:decide ((4294967296:Int)≤(q:Int))=false:=decide_eq_false zo;obtain ⟨T,V,RF,HE2,m1,m2⟩:=sj h1 Vw.out HB1.out HB1.out.2.2.2.2;clear h1
        rcases aO V T with h2|h2
        ·have g2:(V:Int)<(T:Int):=by omega
         obtain ⟨q',r',HD,HL,w1,w2⟩:=HT.out (.inr (by rw [RF.out,HE2.out];exact h2));clear h2
         rcases aO r' 4294967296 with h3|h3
         ·have g3:decide ((4294967296:Int)≤(r':Int))=false:=decide_eq_false zo;have NJ:=zh h3;clear h3;go_wp2_with fail
          go_roundw
          case rel=>exact ⟨q',r',rfl,rfl,HD,NJ,vR⟩
          case measure=>have:=HL.out;simp [intOf];omega
         ·have g3:decide ((4294967296:Int)≤(r':Int))=true:=decide_eq_true zo;have HQ:=zh (HD.out.brk (aI zo HB1.out.1) zo HB1.out.2.2.1 ((by rw [Bh.out];exact Vu.out)) h3);clear h3;have HE:=zh (jL Ry.out HQ.out HW.out HB1.out Bh.out R4.out Yn.out);have e1:=HE.out.1;have e2:=HE.out.2;go_wp2_with fail
          go_ret2
          exact ⟨by simp,vR.out⟩
        ·have g2:¬ (V:Int)<(T:Int):=by omega
         have HQ:=zh (HST.out.stop (aI zo HB1.out.1) zo (by rw [RF.out,HE2.out];exact h2));clear h2;have HE:=zh (jL Ry.out HQ.out HW.out HB1.out Bh.out R4.out Yn.out);have e1:=HE.out.1;have e2:=HE.out.2;go_wp2_with fail
         go_ret2
         exact ⟨by simp,vR.out⟩
       ·have g1:decide ((4294967296:Int)≤(q:Int))=true:=decide_eq_true zo;obtain ⟨q',r',HD,HL,w1,w2⟩:=HT.out (.inl h1);clear h1
        rcases aO r' 4294967296 with h3|h3
        ·have g3:decide ((4294967296:Int)≤(r':Int))=false:=decide_eq_false zo;have NJ:=zh h3;clear h3;go_wp2_with fail
         go_roundw
         case rel=>exact ⟨q',r',rfl,rfl,HD,NJ,vR⟩
         case measure=>have:=HL.out;simp [intOf];omega
        ·have g3:decide ((4294967296:Int)≤(r':Int))=true:=decide_eq_true zo;have HQ:=zh (HD.out.brk (aI zo HB1.out.1) zo HB1.out.2.2.1 ((by rw [Bh.out];exact Vu.out)) h3);clear h3;have HE:=zh (jL Ry.out HQ.out HW.out HB1.out Bh.out R4.out Yn.out);have e1:=HE.out.1;have e2:=HE.out.2;go_wp2_with fail
         go_ret2
         exact ⟨by simp,vR.out⟩
    ·have g2:¬ (V:Int)<(T:Int):=by omega
     have HQ:=zh (HST.out.stop (aI zo HB1.out.1) zo (by rw [RF.out,HE2.out];exact h2));clear h2;obtain ⟨W,q0,r0,HW,Vu,x1,x2,x3,Y3,zH⟩:=rR HQ.out Bh.out HB1.out HUY.out R4.out;have Ry:=HQ;have ST2:=zh (zH.out L0 HB1.out.2.2.2.2);clear HQ zH;go_wp2_with fail
     go_loopw [18,16] (fun qv rv wr=>∃ q r:Nat,qv= Z .u64 (q:Int)∧rv= Z .u64 (r:Int)∧Hid (F3 4294967296 Y1 Y0 W L0 q r)∧Hid (r<4294967296)∧Hid (Below w'.heap.size w' wr)) (fun qv _ _=>(intOf qv).toNat)
     case atStart=>exact ⟨q0,r0,rfl,rfl,ST2,Y3,vR⟩
     case round =>
      clear ST2 Y3 vR;obtain ⟨q,r,rfl,rfl,HST,Vw,vR⟩:=hrel;have HT:=zh (rM HST.out Vw.out HB1.out (by rw [Bh.out];exact Vu.out) HB1.out.2.2.2.2)
      rcases aO q 4294967296 with h1|h1
      ·have g1:decide ((4294967296:Int)≤(q:Int))=false:=decide_eq_false zo;obtain ⟨T,V,RF,HE2,m1,m2⟩:=sj h1 Vw.out HB1.out HB1.out.2.2.2.2;clear h1
       rcases aO V T with h2|h2
       ·have g2:(V:Int)<(T:Int):=by omega
        obtain ⟨q',r',HD,HL,w1,w2⟩:=HT.out (.inr (by rw [RF.out,HE2.out];exact h2));clear h2
        rcases aO r' 4294967296 with h3|h3
        ·have g3:decide ((4294967296:Int)≤(r':Int))=false:=decide_eq_false zo;have NJ:=zh h3;clear h3;go_wp2_with fail
         go_roundw
         case rel=>exact ⟨q',r',rfl,rfl,HD,NJ,vR⟩
         case measure=>have:=HL.out;simp [intOf];omega
        ·have g3:decide ((4294967296:Int)≤(r':Int))=true:=decide_eq_true zo;have HQ:=zh (HD.out.brk (aI zo HB1.out.1) zo HB1.out.2.2.1 ((by rw [Bh.out];exact Vu.out)) h3);clear h3;have HE:=zh (jL Ry.out HQ.out HW.out HB1.out Bh.out R4.out Yn.out);have e1:=HE.out.1;have e2:=HE.out.2;go_wp2_with fail
         go_ret2
         exact ⟨by simp,vR.out⟩
       ·have g2:¬ (V:Int)<(T:Int):=by omega
        have HQ:=zh (HST.out.stop (aI zo HB1.out.1) zo (by rw [RF.out,HE2.out];exact h2));clear h2;have HE:=zh (jL Ry.out HQ.out HW.out HB1.out Bh.out R4.out Yn.out);have e1:=HE.out.1;have e2:=HE.out.2;go_wp2_with fail
        go_ret2
        exact ⟨by simp,vR.out⟩
      ·have g1:decide ((4294967296:Int)≤(q:Int))=true:=decide_eq_true zo;obtain ⟨q',r',HD,HL,w1,w2⟩:=HT.out (.inl h1);clear h1
       rcases aO r' 4294967296 with h3|h3
       ·have g3:decide ((4294967296:Int)≤(r':Int))=false:=decide_eq_false zo;have NJ:=zh h3;clear h3;go_wp2_with fail
        go_roundw
        case rel=>exact ⟨q',r',rfl,rfl,HD,NJ,vR⟩
        case measure=>have:=HL.out;simp [intOf];omega
       ·have g3:decide ((4294967296:Int)≤(r':Int))=true:=decide_eq_true zo;have HQ:=zh (HD.out.brk (aI zo HB1.out.1) zo HB1.out.2.2.1 ((by rw [Bh.out];exact Vu.out)) h3);clear h3;have HE:=zh (jL Ry.out HQ.out HW.out HB1.out Bh.out R4.out Yn.out);have e1:=HE.out.1;have e2:=HE.out.2;go_wp2_with fail
        go_ret2
        exact ⟨by simp,vR.out⟩
   ·have g1:decide ((4294967296:Int)≤(q:Int))=true:=decide_eq_true zo;obtain ⟨q',r',HD,HL,w1,w2⟩:=HT.out (.inl h1);clear h1
    rcases aO r' 4294967296 with h3|h3
    ·have g3:decide ((4294967296:Int)≤(r':Int))=false:=decide_eq_false zo;have NJ:=zh h3;clear h3;go_wp2_with fail
     go_roundw
     case rel=>exact ⟨q',r',rfl,rfl,HD,NJ,vR⟩
     case measure=>have:=HL.out;simp [intOf];omega
    ·have g3:decide ((4294967296:Int)≤(r':Int))=true:=decide_eq_true zo;have HQ:=zh (HD.out.brk (aI zo HB1.out.1) zo HB1.out.2.2.1 ((by rw [Bh.out];exact HUY.out)) h3);clear h3;obtain ⟨W,q0,r0,HW,Vu,x1,x2,x3,Y3,zH⟩:=rR HQ.out Bh.out HB1.out HUY.out R4.out;have Ry:=HQ;have ST2:=zh (zH.out L0 HB1.out.2.2.2.2);clear HQ zH;go_wp2_with fail
     go_loopw [18,16] (fun qv rv wr=>∃ q r:Nat,qv= Z .u64 (q:Int)∧rv= Z .u64 (r:Int)∧Hid (F3 4294967296 Y1 Y0 W L0 q r)∧Hid (r<4294967296)∧Hid (Below w'.heap.size w' wr)) (fun qv _ _=>(intOf qv).toNat)
     case atStart=>exact ⟨q0,r0,rfl,rfl,ST2,Y3,vR⟩
     case round =>
      clear ST2 Y3 vR;obtain ⟨q,r,rfl,rfl,HST,Vw,vR⟩:=hrel;have HT:=zh (rM HST.out Vw.out HB1.out (by rw [Bh.out];exact Vu.out) HB1.out.2.2.2.2)
      rcases aO q 4294967296 with h1|h1
      ·have g1:decide ((4294967296:Int)≤(q:Int))=false:=decide_eq_false zo;obtain ⟨T,V,RF,HE2,m1,m2⟩:=sj h1 Vw.out HB1.out HB1.out.2.2.2.2;clear h1
       rcases aO V T with h2|h2
       ·have g2:(V:Int)<(T:Int):=by omega
        obtain ⟨q',r',HD,HL,w1,w2⟩:=HT.out (.inr (by rw [RF.out,HE2.out];exact h2));clear h2
        rcases aO r' 4294967296 with h3|h3
        ·have g3:decide ((4294967296:Int)≤(r':Int))=false:=decide_eq_false zo;have NJ:=zh h3;clear h3;go_wp2_with fail
         go_roundw
         case rel=>exact ⟨q',r',rfl,rfl,HD,NJ,vR⟩
         case measure=>have:=HL.out;simp [intOf];omega
        ·have g3:decide ((4294967296:Int)≤(r':Int))=true:=decide_eq_true zo;have HQ:=zh (HD.out.brk (aI zo HB1.out.1) zo HB1.out.2.2.1 ((by rw [Bh.out];exact Vu.out)) h3);clear h3;have HE:=zh (jL Ry.out HQ.out HW.out HB1.out Bh.out R4.out Yn.out);have e1:=HE.out.1;have e2:=HE.out.2;go_wp2_with fail
         go_ret2
         exact ⟨by simp,vR.out⟩
       ·have g2:¬ (V:Int)<(T:Int):=by omega
        have HQ:=zh (HST.out.stop (aI zo HB1.out.1) zo (by rw [RF.out,HE2.out];exact h2));clear h2;have HE:=zh (jL Ry.out HQ.out HW.out HB1.out Bh.out R4.out Yn.out);have e1:=HE.out.1;have e2:=HE.out.2;go_wp2_with fail
        go_ret2
        exact ⟨by simp,vR.out⟩
      ·have g1:decide ((4294967296:Int)≤(q:Int))=true:=decide_eq_true zo;obtain ⟨q',r',HD,HL,w1,w2⟩:=HT.out (.inl h1);clear h1
       rcases aO r' 4294967296 with h3|h3
       ·have g3:decide ((4294967296:Int)≤(r':Int))=false:=decide_eq_false zo;have NJ:=zh h3;clear h3;go_wp2_with fail
        go_roundw
        case rel=>exact ⟨q',r',rfl,rfl,HD,NJ,vR⟩
        case measure=>have:=HL.out;simp [intOf];omega
       ·have g3:decide ((4294967296:Int)≤(r':Int))=true:=decide_eq_true zo;have HQ:=zh (HD.out.brk (aI zo HB1.out.1) zo HB1.out.2.2.1 ((by rw [Bh.out];exact Vu.out)) h3);clear h3;have HE:=zh (jL Ry.out HQ.out HW.out HB1.out Bh.out R4.out Yn.out);have e1:=HE.out.1;have e2:=HE.out.2;go_wp2_with fail
        go_ret2
        exact ⟨by simp,vR.out⟩
end Go.Proofs.bits
namespace Go
theorem mg {P:Program} {b:Frame} {a:Act} {k:List Item} {cs:List Frame} {w:World} {c:Code}:step P (lone (b.atR a (.code (.scope c)::k)) cs w)= .next (lone (b.atR a (.code c:: .inScope c::k)) cs w) :=
 step_lone_go (by simp [stepG,stepG.exec,Frame.atR])
theorem DN {P:Program} {b:Frame} {a:Act} {k:List Item} {cs:List Frame} {w:World} {c:Code}:step P (lone (b.atR a (.inScope c::k)) cs w)= .next (lone (b.atR a k) cs w) :=
 step_lone_go (by simp [stepG,stepG.exec,Frame.atR])
theorem K7 {F:Fence} {n:Nat} {P:Program} {Q:Exit→Act→World→Prop} {a:Act} {w:World} {c:Code} (h:c.wpIn F n P (Exit.noGoto Q) a w):(Code.scope c).wpIn F n P Q a w:=by
 intro b k cs hro hb hr;have h0:(lone (b.atR a (.code (.scope c)::k)) cs w).fenced P F:=fenced_calm hb hr rfl;obtain ⟨e,a₁,w₁,hq,harr⟩:=h b (.inScope c::k) cs hro hb hr;cases e with
 | normal=>exact ⟨.normal,a₁,w₁,hq,.head h0 mg (StepsIn.trans harr (.one (fenced_calm hb hr rfl) DN))⟩
 | exit id =>
  have hx:exitTo id (.inScope c::k)=exitTo id k:=by simp [exitTo]
  exact ⟨.exit id,a₁,w₁,hq,fun k' hk=>.head h0 mg (harr.1 k' (by rw [hx];exact hk)),
   fun hr' hk=>let ⟨k₁,h1,h2⟩:=harr.2 hr' (by rw [hx];exact hk);⟨k₁,h1,.head h0 mg h2⟩⟩
 | goto l=>exact hq.elim
 | ret=>exact ⟨_,a₁,w₁,hq,.of_steps (.one h0 mg) harr⟩
 | panic ch=>exact ⟨_,a₁,w₁,hq,.of_steps (.one h0 mg) harr⟩
 | outgrown=>exact ⟨_,a₁,w₁,hq,.of_steps (.one h0 mg) harr⟩
end Go
namespace Go.Proofs.dH
open Go Go.RowKit Go.SW Go.Num Go.Mem Go.Proofs Go.gD
theorem ag8 (b c:Nat) (zs:List Int) (z0:Int) (h0:zs[0]? =some z0) (arr:Array Value) (T:TypeId) (w:World) (hx:aA w b arr T) (hc:∀ j (h:j<zs.length),arr[j]? =some (.int .i64 zs[j])) (hl:zs.length≤9223372036854775807) :
  Calls Tryz.prog 243 #[ah (some ⟨b,0,none⟩) zs.length c] w (fun e w'=>e= aj (Z I (zs.foldl min z0))∧Below w.heap.size w w'):=by
 have hn:0<zs.length:=by
  rcases aV zs.length with h|h
  ·rw [List.getElem?_eq_none zo] at h0;cases h0
  ·exact h
 have hz0:zs[0]=z0:=by
  rw [List.getElem?_eq_getElem hn] at h0;exact Option.some.inj h0
 have h00:w.cell? ⟨b,0,none⟩=some (.int .i64 z0):=by
  rw [hx.cell,hc 0 hn,hz0]
 have lb:=hx.lt;have g1:decide ((zs.length:Int)<1)=false:=by simp;omega
 have HX:=zh hx;have HC:=zh hc;clear hx hc;go_enter Tryz.func243,Tryz.ntmps243
 go_wp2_with fail
 go_loopw [3,4] (fun m i wr=>∃ k:Nat,0<k∧k≤zs.length∧i= Z I (k:Int)∧m= Z I ((zs.take k).foldl min z0)∧Below w.heap.size w wr) (fun _ i _=>zs.length - (intOf i).toNat)
 case atStart =>
  refine ⟨1,by omega,hn,rfl,?_,Below.refl _ _⟩;cases zs with
  | nil=>simp at hn
  | cons x t =>
   simp only [List.getElem_cons_zero] at hz0;subst hz0;simp
 case round =>
  obtain ⟨k,hk0,hk,rfl,rfl,hb⟩:=hrel
  by_cases hlt:k<zs.length
  ·have hcell:=((HX.out.later hb).cell k).trans (HC.out k hlt)
   have hstep:(zs.take (k+1)).foldl min z0=min ((zs.take k).foldl min z0) zs[k]:=by
    rw [fq hlt,List.foldl_append];rfl
   have HS:=zh hstep;clear hstep;generalize zs[k]=zk at *;generalize (zs.take k).foldl min z0=mk at *;go_wp2_with fail
   go_roundw
   case rel=>exact ⟨k+1,by omega,by omega,by go_num,by rw [HS.out]<;>go_num,hb⟩
   case measure=>exact zM
  ·obtain rfl:k=zs.length:=by omega
   rw [fG];go_wp2_with fail
   go_ret
   exact ⟨rfl,hb⟩
theorem Ua (b c:Nat) (zs:List Int) (z0:Int) (h0:zs[0]? =some z0) (arr:Array Value) (T:TypeId) (w:World) (hx:aA w b arr T) (hc:∀ j (h:j<zs.length),arr[j]? =some (.int .i64 zs[j])) (hl:zs.length≤9223372036854775807) :
  Calls Tryz.prog 179 #[ah (some ⟨b,0,none⟩) zs.length c] w (fun e w'=>e= aj (Z I (zs.foldl min z0))∧Below w.heap.size w w'):=by
 have H:=zh (ag8 b c zs z0 h0 arr T w hx hc hl);clear h0 hx hc hl;generalize zs.length=n at *;generalize zs.foldl min z0=z at *;go_enter Tryz.func179,Tryz.ntmps179
 go_wp2_with fail
 refine H.out.mono ?_;rintro e w1 ⟨rfl,hb1⟩;go_wp2_with fail
 go_ret
 exact ⟨rfl,hb1⟩
theorem Gm (x:Int) (h1: -9223372036854775808<x) (h2:x<9223372036854775808) (w:World):Calls Tryz.prog 177 #[Z I x] w (fun e w'=>e= aj (Z .u64 (x.natAbs:Int))∧Below w.heap.size w w'):=by
 by_cases h:x<0
 ·have e:IntKind.u64.wrap (I.wrap (-x))=(x.natAbs:Int):=by rw [IntKind.wrap_i64,IntKind.wrap_u64];omega
  go_enter Tryz.func177,Tryz.ntmps177
  go_wp2_with fail
  go_ret
  refine ⟨?_,Below.refl _ _⟩
  show Ending.returned (Z .u64 (-x))=_
  rw [show -x=(x.natAbs:Int) by omega]
 ·have e:IntKind.u64.wrap x=(x.natAbs:Int):=by rw [IntKind.wrap_u64];omega
  go_enter Tryz.func177,Tryz.ntmps177
  go_wp2_with fail
  go_ret
  exact ⟨rfl,Below.refl _ _⟩
def qA (P d:Nat) (b neg:Bool):Int × Bool:=if sM P d b≤1000000000000000000 then (iV (sM P d b) neg,true) else (0,false)
theorem Ti {P d:Nat} {b neg:Bool} (h:1000000000000000000<P / d):qA P d b neg=(0,false):=by
 unfold qA sM;generalize P / d=q at *;rw [if_neg];split<;>omega
theorem Qi {P d:Nat} {neg:Bool} (hr:0<P%d) (h:1000000000000000000<P / d+1):qA P d true neg=(0,false):=by
 unfold qA sM;rw [if_pos (⟨hr,rfl⟩:0<P%d∧true=true),if_neg (by generalize P / d=q at*; omega)]
theorem WE {P d:Nat} {neg:Bool} (hr:0<P%d) (h:P / d+1≤1000000000000000000):qA P d true neg=(iV (P / d+1) neg,true):=by
 unfold qA sM;rw [if_pos (⟨hr,rfl⟩:0<P%d∧true=true),if_pos h]
theorem WG {P d:Nat} {b neg:Bool} (hr:P%d=0∨b=false) (h:P / d≤1000000000000000000):qA P d b neg=(iV (P / d) neg,true):=by
 have hn:¬ (0<P%d∧b=true):=by
  rintro ⟨h1,h2⟩
  rcases hr with h3|h3
  ·omega
  ·rw [h3] at h2;cases h2
 have e:sM P d b=P / d:=if_neg hn;unfold qA;rw [e,if_pos h]
def nS (x y d:Int) (up:Bool):Int × Bool:=WB (if d<0 then -x else x) y d.natAbs up
theorem Qh (d:Nat) (b n1 n2:Bool):qA 0 d b n1=qA 0 d b n2:=by
 have e:sM 0 d b=0:=by unfold sM;simp
 unfold qA iV;rw [e];cases n1<;>cases n2<;>rfl
theorem WC (d:Nat) (b c n:Bool):qA 0 d b n=qA 0 d c n:=by
 have e:∀ b,sM 0 d b=0:=fun b=>by unfold sM;simp
 unfold qA;rw [e,e]
theorem SV (n:Nat):iV n true= -(n:Int):=rfl
theorem S9 (n:Nat):iV n false=(n:Int):=rfl
theorem Tf (x y d:Int) (hd:d≠0) (up:Bool):nS x y d up=qA (x.natAbs*y.natAbs) d.natAbs (up != ((decide (x<0) != decide (y<0)) != decide (d<0))) ((decide (x<0) != decide (y<0)) != decide (d<0)):=by
 have hd':0<d.natAbs:=by omega
 unfold nS
 by_cases h:d<0
 ·rw [if_pos h,decide_eq_true h];have e:=Je (-x) y hd' up;rw [Int.natAbs_neg] at e;refine e.trans ?_
  show qA _ _ _ _=_
  by_cases h0:x=0
  ·subst h0;rw [Int.natAbs_zero,Nat.zero_mul];exact (Qh _ _ _ _).trans (WC _ _ _ _)
  ·have:decide (-x<0)= !decide (x<0):=by
    by_cases hx:x<0
    ·rw [decide_eq_true hx,decide_eq_false zo];rfl
    ·rw [decide_eq_false hx,decide_eq_true zo];rfl
   rw [this];cases decide (x<0)<;>cases decide (y<0)<;>rfl
 ·rw [if_neg h,decide_eq_false h];refine (Je x y hd' up).trans ?_;rw [Bool.bne_false];rfl
theorem Jd (x y d:Int) (up:Bool) (hx:x.natAbs≤1000000000000000000) (hy:y.natAbs≤1000000000000000000) (hd:d≠0) (hd2:d.natAbs≤1000000000000000000) (w:World) :
    Calls Tryz.prog 95 #[Z I x,Z I y,Z I d,ak up] w (fun e w'=>e= aj (aG #[Z I (nS x y d up).1,ak (nS x y d up).2])∧Below w.heap.size w w'):=by
  have S1:=zh (fun W=>Gm x zo zo W);have S2:=zh (fun W=>Gm y zo zo W);have S3:=zh (fun W=>Gm d zo zo W);have hq:=Tf x y d hd up;obtain ⟨nx,ex⟩:∃ b,decide (x<0)=b:=⟨_,rfl⟩;obtain ⟨ny,ey⟩:∃ b,decide (y<0)=b:=⟨_,rfl⟩;obtain ⟨nd,ed⟩:∃ b,decide (d<0)=b:=⟨_,rfl⟩;rw [ex,ey,ed] at hq;obtain ⟨P,eP⟩:∃ P,x.natAbs*y.natAbs=P:=⟨_,rfl⟩;obtain ⟨D,eD⟩:∃ D,d.natAbs=D:=⟨_,rfl⟩;rw [eP,eD] at hq;rw [eD] at S3
  have hP:P<18446744073709551616*18446744073709551616:=by
    rw [← eP]
    calc x.natAbs*y.natAbs≤1000000000000000000*1000000000000000000:=dP hx hy
      _<_:=by decide
  have hD:0<D:=by omega
  have hD2:D≤1000000000000000000:=by omega
  rw [hq]
  have M1:Hid (∀ W,Calls Tryz.prog 176 #[Z .u64 (x.natAbs:Int),Z .u64 (y.natAbs:Int)] W (fun e w'=>e= aj (aG #[Z .u64 ((P / 18446744073709551616:Nat):Int),Z .u64 ((P%18446744073709551616:Nat):Int)])∧Below W.heap.size W w')):=zh fun W=>by
    refine (Tryz.bits_Mul64 x.natAbs y.natAbs zo zo W).mono ?_;rintro e w' ⟨rfl,rfl⟩;rw [eP];exact ⟨rfl,Below.refl _ _⟩
  have hlo:=fC P (show 0<18446744073709551616 by omega);have Mx:=dF P 18446744073709551616
  have D1:Hid (P / 18446744073709551616<D→∀ W,Calls Tryz.prog 178 #[Z .u64 ((P / 18446744073709551616:Nat):Int),Z .u64 ((P%18446744073709551616:Nat):Int),Z .u64 (D:Int)] W (fun e w'=>e= aj (aG #[Z .u64 ((P / D:Nat):Int),Z .u64 ((P%D:Nat):Int)])∧Below W.heap.size W w')):=zh fun hlt W=>by
    have:=bits.VE (P / 18446744073709551616) (P%18446744073709551616) D hlt zo hlo W;rw [show P / 18446744073709551616*18446744073709551616+P%18446744073709551616=P by rw [aL];exact Mx] at this;exact this
  have hbig:D≤P / 18446744073709551616→18446744073709551616≤P / D:=fun h=>by
    rw [Nat.le_div_iff_mul_le hD];have:=aR 18446744073709551616 h;omega
  obtain ⟨hi,ehi⟩:∃ a,P / 18446744073709551616=a:=⟨_,rfl⟩;obtain ⟨lo,elo⟩:∃ a,P%18446744073709551616=a:=⟨_,rfl⟩;rw [ehi,elo] at M1 D1;rw [ehi] at hbig;have Yq:=zh hbig;clear hx hy hd hd2 hq eP eD hP hlo Mx ehi elo hbig hD hD2;obtain ⟨q,eq⟩:∃ a,P / D=a:=⟨_,rfl⟩;obtain ⟨r,er⟩:∃ a,P%D=a:=⟨_,rfl⟩;rw [eq,er] at D1;rw [eq] at Yq;have Q1:Hid (∀ b neg,1000000000000000000<q→qA P D b neg=(0,false)):=zh fun b neg h=>Ti (by rw [eq];exact h);have Q2:Hid (∀ neg,0<r→1000000000000000000<q+1→qA P D true neg=(0,false)):=zh fun neg h1 h2=>Qi (by rw [er];exact h1) (by rw [eq];exact h2);have Q3:Hid (∀ neg,0<r→q+1≤1000000000000000000→qA P D true neg=(iV (q+1) neg,true)):=zh fun neg h1 h2=>by rw [WE (by rw [er];exact h1) (by rw [eq];exact h2),eq]
  have Q4:Hid (∀ b neg,(r=0∨b=false)→q≤1000000000000000000→qA P D b neg=(iV q neg,true)):=zh fun b neg h1 h2=>by rw [WG (by rw [er];exact h1) (by rw [eq];exact h2),eq]
  clear eq er;generalize qA P D=QR at *;obtain ⟨ng,hn⟩:∃ b,((nx != ny) != nd)=b:=⟨_,rfl⟩;rw [hn];obtain ⟨bb,hb0⟩:∃ b,(up != ng)=b:=⟨_,rfl⟩;rw [hb0];obtain ⟨⟨z1,z2⟩,hz⟩:∃ z,QR bb ng=z:=⟨_,rfl⟩;rw [hz];have HZ:=zh hz;clear hz;simp only;cases bb<;>cases nx<;>cases ny<;>cases nd<;>cases up
  all_goals first|(obtain rfl:true=ng:=hn)|(obtain rfl:false=ng:=hn)
  all_goals first|(exfalso;revert hb0;decide)|skip
  all_goals
    clear hb0;go_enter Tryz.func95,Tryz.ntmps95
    go_wp2_with fail
    refine (S1.out _).mono ?_;rintro e w1 ⟨rfl,hb⟩;have HB:=zh hb;clear hb;go_wp2_with fail
    refine (S2.out _).mono ?_;rintro e w2 ⟨rfl,hb⟩;replace HB:=zh (Bt HB.out hb);clear hb;go_wp2_with fail
    refine (M1.out _).mono ?_;rintro e w3 ⟨rfl,hb⟩;replace HB:=zh (Bt HB.out hb);clear hb;go_wp2_with fail
    refine (S3.out _).mono ?_;rintro e w4 ⟨rfl,hb⟩;replace HB:=zh (Bt HB.out hb);clear hb
    rcases aO hi D with c1|c1
    rotate_left
    · have g1:decide (D≤hi)=true:=decide_eq_true zo
      have g1':D≤hi:=c1;obtain ⟨rfl,rfl⟩:z1=0∧z2=false:=by have h:=HZ.out;rw [Q1.out _ _ (by have:=Yq.out c1;omega)] at h;cases h;exact ⟨rfl,rfl⟩
      clear c1 Q1 Q2 Q3 Q4 ex ey ed;go_wp2_with fail
      go_ret2
      exact ⟨rfl,HB.out⟩
    have g1:decide (D≤hi)=false:=decide_eq_false zo;have g1':¬ D≤hi:=by omega
    have D2:=zh (D1.out c1);clear c1 ex ey ed;go_wp2_with fail
    refine (S3.out _).mono ?_;rintro e w5 ⟨rfl,hb⟩;replace HB:=zh (Bt HB.out hb);clear hb;go_wp2_with fail
    refine (D2.out _).mono ?_;rintro e w6 ⟨rfl,hb⟩;replace HB:=zh (Bt HB.out hb);clear hb g1 g1' D1 D2
    rcases aO 1000000000000000000 q with c2|c2
    · have g2:decide ((1000000000000000000:Int)<(q:Int))=true:=decide_eq_true zo
      obtain ⟨rfl,rfl⟩:z1=0∧z2=false:=by have h:=HZ.out;rw [Q1.out _ _ c2] at h;cases h;exact ⟨rfl,rfl⟩
      have C2:=zh c2;clear c2 Q1 Q2 Q3 Q4;go_wp2_with fail
      go_ret2
      exact ⟨rfl,HB.out⟩
    have g2:decide ((1000000000000000000:Int)<(q:Int))=false:=decide_eq_false zo;have w1:I.wrap (q:Int)=(q:Int):=by rw [IntKind.wrap_i64];omega
    have w2:I.wrap (-(q:Int))= -(q:Int):=by rw [IntKind.wrap_i64];omega
    have w3:IntKind.u64.wrap ((q:Int)+1)=((q+1:Nat):Int):=by rw [IntKind.wrap_u64];omega
    rcases aV r with c3|c3
    · subst c3
      have h:=HZ.out;rw [Q4.out _ _ (.inl rfl) c2] at h
      first|rw [SV] at h|rw [S9] at h
      cases h
      have C2:=zh c2;clear c2 Q1 Q2 Q3 Q4 w3;go_wp2_with fail
      go_ret2
      exact ⟨rfl,HB.out⟩
    have g3:(0:Int)<(r:Int):=by omega
    first
      | (have h:=HZ.out
         rw [Q4.out false _ (Or.inr rfl) c2] at h
         first|rw [SV] at h|rw [S9] at h
         cases h
         have C2:=zh (And.intro c2 c3);clear c2 c3 Q1 Q2 Q3 Q4 w3;go_wp2_with fail
         go_ret2
         exact ⟨rfl,HB.out⟩)
      | (obtain ⟨q',eq'⟩:∃ a,q+1=a:=⟨_,rfl⟩
         rw [eq'] at w3 Q2 Q3
         rcases aO 1000000000000000000 q' with c4|c4
         · have g4:decide ((1000000000000000000:Int)<(q':Int))=true:=decide_eq_true zo
           obtain ⟨rfl,rfl⟩:z1=0∧z2=false:=by have h:=HZ.out;rw [Q2.out _ c3 c4] at h;cases h;exact ⟨rfl,rfl⟩
           have C2:=zh (And.intro c2 (And.intro c3 (And.intro c4 eq')));clear c2 c3 c4 eq' Q1 Q2 Q3 Q4 w1 w2;go_wp2_with fail
           go_ret2
           exact ⟨rfl,HB.out⟩
         · have g4:decide ((1000000000000000000:Int)<(q':Int))=false:=decide_eq_false zo
           have w1':I.wrap (q':Int)=(q':Int):=by rw [IntKind.wrap_i64];omega
           have w2':I.wrap (-(q':Int))= -(q':Int):=by rw [IntKind.wrap_i64];omega
           have h:=HZ.out;rw [Q3.out _ c3 c4] at h
           first|rw [SV] at h|rw [S9] at h
           cases h
           have C2:=zh (And.intro c2 (And.intro c3 (And.intro c4 eq')));clear c2 c3 c4 eq' Q1 Q2 Q3 Q4 w1 w2;go_wp2_with fail
           go_ret2
           exact ⟨rfl,HB.out⟩)
def VL (a:Int × Int) (k:Nat):Int:=if k / 2=0 then a.1 else a.2
def RQ (b:Int × Int) (k:Nat):Int:=if k%2=0 then b.1 else b.2
def uR (Q:Int→Int→Bool→Int × Bool) (a b:Int × Int) (k:Nat):Int × Bool:=Q (VL a k) (RQ b k) false
def uT (Q:Int→Int→Bool→Int × Bool) (a b:Int × Int) (k:Nat):Int × Bool:=Q (VL a k) (RQ b k) true
def UG (Q:Int→Int→Bool→Int × Bool) (a b:Int × Int):Bool:=(dz 4).all fun k=>(uR Q a b k).2&&(uT Q a b k).2
def rO (Q:Int→Int→Bool→Int × Bool) (a b:Int × Int):(Int × Int) × Int:=if UG Q a b then gT ([(uR Q a b 0).1,(uR Q a b 1).1,(uR Q a b 2).1,(uR Q a b 3).1].foldl min (uR Q a b 0).1) ([(uT Q a b 0).1,(uT Q a b 1).1,(uT Q a b 2).1,(uT Q a b 3).1].foldl max (uT Q a b 0).1) else ((0,0),6)
def QT (f:Nat→Int × Bool) (k q:Nat):Int:=if q<k then (f q).1 else 0
def zC (f:Nat→Int × Bool) (k:Nat):Array Value:=#[Z I (QT f k 0),Z I (QT f k 1),Z I (QT f k 2),Z I (QT f k 3)]
theorem aA.aw9 (w:World) (o o2 o3 o4:Obj) (cs:Array Value) (T:TypeId):aA (((((w.alloc o).alloc o2).alloc o3).alloc o4).alloc (.cells cs T (0,0))) (w.heap.size+1+1+1+1) cs T:=aA.GN zi
theorem ag3 (w:World) (c0:Array Value) (T0:TypeId) (c1:Array Value) (T1:TypeId) (c2:Array Value) (T2:TypeId) (c3:Array Value) (T3:TypeId) (c4:Array Value) (T4:TypeId):∃ y,((((w.alloc (.cells c0 T0 (0,0))).alloc (.cells c1 T1 (0,0))).alloc (.cells c2 T2 (0,0))).alloc (.cells c3 T3 (0,0))).alloc (.cells c4 T4 (0,0))=y∧Below w.heap.size w y∧Hid (aA y (w.heap.size) c0 T0)∧Hid (aA y (w.heap.size+1) c1 T1)∧Hid (aA y (w.heap.size+1+1) c2 T2)∧Hid (aA y (w.heap.size+1+1+1) c3 T3)∧Hid (aA y (w.heap.size+1+1+1+1) c4 T4):=⟨_,rfl,dQ (dQ (dQ (dQ (dQ (Below.refl _ _) _) _) _) _) _,zh (aA.alloc (aA.alloc (aA.alloc (aA.alloc (aA.new _ _ _) _) _) _) _),zh (aA.alloc (aA.alloc (aA.alloc (aA.pV _ _ _ _) _) _) _),zh (aA.alloc (aA.alloc (aA.at2 _ _ _ _ _) _) _),zh (aA.alloc (aA.at3 _ _ _ _ _ _) _),zh (aA.aw9 _ _ _ _ _ _ _)⟩
structure KX (Q:Int→Int→Bool→Int × Bool) (w0:World) (a b:Int × Int) (wr:World) (k:Nat):Prop where
 ba:aA wr w0.heap.size #[Z I a.1,Z I a.2] 40
 bb:aA wr (w0.heap.size+1) #[Z I b.1,Z I b.2] 40
 br:aA wr (w0.heap.size+1+1) #[Z I 0,Z I 0] 40
 bl:aA wr (w0.heap.size+1+1+1) (zC (uR Q a b) k) 198
 bh:aA wr (w0.heap.size+1+1+1+1) (zC (uT Q a b) k) 198
 bw:Below w0.heap.size w0 wr
 ok:∀ q,q<k→(uR Q a b q).2=true∧(uT Q a b q).2=true
theorem KX.later {Q:Int→Int→Bool→Int × Bool} {w0 wr w':World} {a b:Int × Int} {k:Nat} (h:KX Q w0 a b wr k) (hb:Below wr.heap.size wr w'):KX Q w0 a b w' k :=
 ⟨h.ba.later hb,h.bb.later hb,h.br.later hb,h.bl.later hb,h.bh.later hb,Bt h.bw hb,h.ok⟩
theorem Kj (f:Nat→Int × Bool) {k:Nat} (hk:k<4):(zC f k).setIfInBounds k (Z I (f k).1)=zC f (k+1):=by
 have:k=0∨k=1∨k=2∨k=3:=by omega
 rcases this with rfl|rfl|rfl|rfl<;>simp [zC,QT]
theorem KX.step {Q:Int→Int→Bool→Int × Bool} {w0 wr:World} {a b:Int × Int} {k:Nat} (h:KX Q w0 a b wr k) (hk:k<4) (h1:(uR Q a b k).2=true) (h2:(uT Q a b k).2=true) :
  KX Q w0 a b ((wr.setCell ⟨w0.heap.size+1+1+1,k,none⟩ (Z I (uR Q a b k).1)).setCell ⟨w0.heap.size+1+1+1+1,k,none⟩ (Z I (uT Q a b k).1)) (k+1) where
 ba:=aA.setOther (aA.setOther h.ba _ (by first|(simp;done)|(simp;omega))) _ (by first|(simp;done)|(simp;omega))
 bb:=aA.setOther (aA.setOther h.bb _ (by first|(simp;done)|(simp;omega))) _ (by first|(simp;done)|(simp;omega))
 br:=aA.setOther (aA.setOther h.br _ zi) _ (by first|(simp;done)|(simp;omega))
 bl:=by
  have:=aA.setOther (h.bl.set k (Z I (uR Q a b k).1)) (a:=⟨w0.heap.size+1+1+1+1,k,none⟩) (Z I (uT Q a b k).1) zi
  rwa [Kj _ hk] at this
 bh:=by
  have:=(aA.setOther h.bh (a:=⟨w0.heap.size+1+1+1,k,none⟩) (Z I (uR Q a b k).1) zi).set k (Z I (uT Q a b k).1)
  rwa [Kj _ hk] at this
 bw:=(h.bw.setCell (p:=⟨w0.heap.size+1+1+1,k,none⟩) (by simp;omega) _).setCell (p:=⟨w0.heap.size+1+1+1+1,k,none⟩) (by simp;omega) _
 ok:=fun q hq=>by
  rcases aO q k with h'|h'
  ·exact h.ok q h'
  ·obtain rfl:q=k:=by omega
   exact ⟨h1,h2⟩
theorem OV (f:Nat→Int × Bool) (j:Nat) (h:j<[(f 0).1,(f 1).1,(f 2).1,(f 3).1].length):(zC f 4)[j]? =some (.int .i64 [(f 0).1,(f 1).1,(f 2).1,(f 3).1][j]):=by
 have:j=0∨j=1∨j=2∨j=3:=by have:j<4:=h;omega
 rcases this with rfl|rfl|rfl|rfl<;>simp [zC,QT]
theorem Wu {Q:Int→Int→Bool→Int × Bool} {a b:Int × Int} {k:Nat} (hk:k<4) (h:(uR Q a b k).2=false∨(uT Q a b k).2=false):rO Q a b=((0,0),6):=by
 unfold rO;rw [if_neg];intro hf;unfold UG at hf;have:=List.all_eq_true.1 hf k (by simp [hk])
 rcases h with h|h<;>simp [h] at this
theorem BG (Q:Int→Int→Bool→Int × Bool) (F:FuncId) (fr:Array Value) (x y z t:Int) (w:World)
  (HC:∀ k up W,Below w.heap.size w W→Calls Tryz.prog F (#[Z I (VL (x,y) k),Z I (RQ (z,t) k),ak up]++fr) W (fun e w'=>e= aj (aG #[Z I (Q (VL (x,y) k) (RQ (z,t) k) up).1,ak (Q (VL (x,y) k) (RQ (z,t) k) up).2])∧Below W.heap.size W w'))
  (hen:∀ args W,(callFunc F args).run Tryz.prog W= .ok (.enter F args) W) :
  Calls Tryz.prog 100 #[au #[Z I x,Z I y],au #[Z I z,Z I t],.func (.func F) #[] fr] w (fun e w'=>e= aj (d9 (rO Q (x,y) (z,t)))∧Below w.heap.size w w'):=by
 have HL:Hid (∀ k W,Below w.heap.size w W→Calls Tryz.prog F (#[Z I (VL (x,y) k),Z I (RQ (z,t) k),ak false]++fr) W (fun e w'=>e= aj (aG #[Z I (uR Q (x,y) (z,t) k).1,ak (uR Q (x,y) (z,t) k).2])∧Below W.heap.size W w')):=zh fun k W h=>HC k false W h;have HH:Hid (∀ k W,Below w.heap.size w W→Calls Tryz.prog F (#[Z I (VL (x,y) k),Z I (RQ (z,t) k),ak true]++fr) W (fun e w'=>e= aj (aG #[Z I (uT Q (x,y) (z,t) k).1,ak (uT Q (x,y) (z,t) k).2])∧Below W.heap.size W w')):=zh fun k W h=>HC k true W h;clear HC;have HN:=zh (fun k (hk:k<4) h=>Wu (Q:=Q) (a:=(x,y)) (b:=(z,t)) (k:=k) hk h);obtain ⟨⟨⟨s1,s2⟩,s3⟩,es⟩:∃ s,rO Q (x,y) (z,t)=s:=⟨_,rfl⟩;rw [es];have HS:=zh es;unfold d9;clear es;go_enter Tryz.func100,Tryz.ntmps100
 go_wp2_with fail
 go_step3
 go_wp2_with fail
 go_step3
 go_wp2_with fail
 obtain ⟨w0,EW,hb,X3,X4,X6,X8,X9⟩:=ag3 w #[Z I x,Z I y] 40 #[Z I z,Z I t] 40 #[Z I 0,Z I 0] 40 #[Z I 0,Z I 0,Z I 0,Z I 0] 198 #[Z I 0,Z I 0,Z I 0,Z I 0] 198;rw [EW];clear EW;have Y7:Hid (KX Q w (x,y) (z,t) w0 0):=zh ⟨X3.out,X4.out,X6.out,X8.out,X9.out,hb,fun q h=>absurd h zo⟩;clear X3 X4 X6 X8 X9 hb
 go_loopw [10,24] (fun fv iv wr=>∃ i:Int,fv= ak true∧iv= Z I i∧Hid ((i=0∧KX Q w (x,y) (z,t) wr 0)∨(i=1∧KX Q w (x,y) (z,t) wr 2)∨(i=2∧KX Q w (x,y) (z,t) wr 4))) (fun _ iv _=>2 - (intOf iv).toNat)
 case atStart=>exact ⟨0,rfl,rfl,zh (.inl ⟨rfl,Y7.out⟩)⟩
 case round =>
  clear Y7;obtain ⟨i,rfl,rfl,HI⟩:=hrel
  rcases HI.out with ⟨rfl,hS⟩|⟨rfl,hS⟩|⟨rfl,hS⟩
  ·clear HI;have hix:∀ W,(Instr.index 199 (au #[Z I x,Z I y]) (Z I 0)).run Tryz.prog W= .ok (Z I x) W:=fun W=>by kernel_rfl
   obtain ⟨c4,l4⟩:=(zh hS.bb).cl;have Y7:=zh hS;clear hS;go_wp2_with fail
   clear hix c4 l4
   go_loopw [10,33] (fun fv jv wr=>∃ j:Int,fv= ak true∧jv= Z I j∧Hid ((j=0∧KX Q w (x,y) (z,t) wr 0)∨(j=1∧KX Q w (x,y) (z,t) wr 1)∨(j=2∧KX Q w (x,y) (z,t) wr 2))) (fun _ jv _=>2 - (intOf jv).toNat)
   case atStart=>exact ⟨0,rfl,rfl,zh (.inl ⟨rfl,Y7.out⟩)⟩
   case round =>
    clear Y7;obtain ⟨j,rfl,rfl,HJ⟩:=hrel
    rcases HJ.out with ⟨rfl,hS⟩|⟨rfl,hS⟩|⟨rfl,hS⟩
    ·clear HJ;obtain ⟨⟨l1,l2⟩,el⟩:∃ v,uR Q (x,y) (z,t) 0=v:=⟨_,rfl⟩;obtain ⟨⟨h1,h2⟩,eh⟩:∃ v,uT Q (x,y) (z,t) 0=v:=⟨_,rfl⟩;have NH:=zh (HL.out 0);have NI:=zh (HH.out 0);rw [el] at NH;rw [eh] at NI;have EL:=zh (And.intro el eh);have Nz:=zh hS;clear el eh hS;have Mr:∀ W,(Instr.index 199 (au #[Z I z,Z I t]) (Z I 0)).run Tryz.prog W= .ok (Z I z) W:=fun W=>by kernel_rfl
     go_wp2_with fail
     refine (NH.out _ Nz.out.bw).mono ?_;rintro e w1 ⟨rfl,hb⟩;have Ny:=zh (Nz.out.later hb);clear hb Mr NH Nz;go_wp2_with fail
     refine (NI.out _ Ny.out.bw).mono ?_;rintro e w2 ⟨rfl,hb⟩;have nu:=zh (Ny.out.later hb);clear hb NI Ny;cases l2
     ·obtain ⟨rfl,rfl,rfl⟩:s1=0∧s2=0∧s3=6:=by have h:=HS.out;rw [HN.out 0 zo (by rw [EL.out.1];exact .inl rfl)] at h;cases h;exact ⟨rfl,rfl,rfl⟩
      obtain ⟨c6,l6,f6⟩:=(zh nu.out.br).clf;go_wp2_with fail
      rw [Exit.noGoto_ret];exact bodyPost_ret (v:=aG #[au #[Z I 0,Z I 0],Z I 6]) (by have h6:=((nu.out.br.set 0 (Z I 0)).set 1 (Z I 0)).cell;have JK:=h6 0;have JJ:=h6 1;simp [results,Tryz.results100,go_sem,JK,JJ]) rfl ⟨rfl,(nu.out.bw.setCell (p:=⟨w.heap.size+1+1,0,none⟩) (by simp;omega) _).setCell (p:=⟨w.heap.size+1+1,1,none⟩) (by simp;omega) _⟩
     ·cases h2
      ·obtain ⟨rfl,rfl,rfl⟩:s1=0∧s2=0∧s3=6:=by have h:=HS.out;rw [HN.out 0 zo (by rw [EL.out.2];exact .inr rfl)] at h;cases h;exact ⟨rfl,rfl,rfl⟩
       obtain ⟨c6,l6,f6⟩:=(zh nu.out.br).clf;go_wp2_with fail
       rw [Exit.noGoto_ret];exact bodyPost_ret (v:=aG #[au #[Z I 0,Z I 0],Z I 6]) (by have h6:=((nu.out.br.set 0 (Z I 0)).set 1 (Z I 0)).cell;have JK:=h6 0;have JJ:=h6 1;simp [results,Tryz.results100,go_sem,JK,JJ]) rfl ⟨rfl,(nu.out.bw.setCell (p:=⟨w.heap.size+1+1,0,none⟩) (by simp;omega) _).setCell (p:=⟨w.heap.size+1+1,1,none⟩) (by simp;omega) _⟩
      ·obtain ⟨c8,l8,f8⟩:=(zh nu.out.bl).clf;obtain ⟨c9,l9,f9⟩:=(zh nu.out.bh).clf;unfold zC at c8 c9;have Nw:=zh (nu.out.step (k:=0) zo (by rw [EL.out.1]) (by rw [EL.out.2]));rw [EL.out.1,EL.out.2] at Nw;clear nu;go_wp2_with fail
       go_roundw
       case rel=>exact ⟨1,rfl,rfl,zh (.inr<| .inl ⟨rfl,Nw.out⟩)⟩
       case measure=>simp [intOf]
    ·clear HJ;obtain ⟨⟨l1,l2⟩,el⟩:∃ v,uR Q (x,y) (z,t) 1=v:=⟨_,rfl⟩;obtain ⟨⟨h1,h2⟩,eh⟩:∃ v,uT Q (x,y) (z,t) 1=v:=⟨_,rfl⟩;have NH:=zh (HL.out 1);have NI:=zh (HH.out 1);rw [el] at NH;rw [eh] at NI;have EL:=zh (And.intro el eh);have Nz:=zh hS;clear el eh hS;have Mr:∀ W,(Instr.index 199 (au #[Z I z,Z I t]) (Z I 1)).run Tryz.prog W= .ok (Z I t) W:=fun W=>by kernel_rfl
     go_wp2_with fail
     refine (NH.out _ Nz.out.bw).mono ?_;rintro e w1 ⟨rfl,hb⟩;have Ny:=zh (Nz.out.later hb);clear hb Mr NH Nz;go_wp2_with fail
     refine (NI.out _ Ny.out.bw).mono ?_;rintro e w2 ⟨rfl,hb⟩;have nu:=zh (Ny.out.later hb);clear hb NI Ny;cases l2
     ·obtain ⟨rfl,rfl,rfl⟩:s1=0∧s2=0∧s3=6:=by have h:=HS.out;rw [HN.out 1 zo (by rw [EL.out.1];exact .inl rfl)] at h;cases h;exact ⟨rfl,rfl,rfl⟩
      obtain ⟨c6,l6,f6⟩:=(zh nu.out.br).clf;go_wp2_with fail
      rw [Exit.noGoto_ret];exact bodyPost_ret (v:=aG #[au #[Z I 0,Z I 0],Z I 6]) (by have h6:=((nu.out.br.set 0 (Z I 0)).set 1 (Z I 0)).cell;have JK:=h6 0;have JJ:=h6 1;simp [results,Tryz.results100,go_sem,JK,JJ]) rfl ⟨rfl,(nu.out.bw.setCell (p:=⟨w.heap.size+1+1,0,none⟩) (by simp;omega) _).setCell (p:=⟨w.heap.size+1+1,1,none⟩) (by simp;omega) _⟩
     ·cases h2
      ·obtain ⟨rfl,rfl,rfl⟩:s1=0∧s2=0∧s3=6:=by have h:=HS.out;rw [HN.out 1 zo (by rw [EL.out.2];exact .inr rfl)] at h;cases h;exact ⟨rfl,rfl,rfl⟩
       obtain ⟨c6,l6,f6⟩:=(zh nu.out.br).clf;go_wp2_with fail
       rw [Exit.noGoto_ret];exact bodyPost_ret (v:=aG #[au #[Z I 0,Z I 0],Z I 6]) (by have h6:=((nu.out.br.set 0 (Z I 0)).set 1 (Z I 0)).cell;have JK:=h6 0;have JJ:=h6 1;simp [results,Tryz.results100,go_sem,JK,JJ]) rfl ⟨rfl,(nu.out.bw.setCell (p:=⟨w.heap.size+1+1,0,none⟩) (by simp;omega) _).setCell (p:=⟨w.heap.size+1+1,1,none⟩) (by simp;omega) _⟩
      ·obtain ⟨c8,l8,f8⟩:=(zh nu.out.bl).clf;obtain ⟨c9,l9,f9⟩:=(zh nu.out.bh).clf;unfold zC at c8 c9;have Nw:=zh (nu.out.step (k:=1) zo (by rw [EL.out.1]) (by rw [EL.out.2]));rw [EL.out.1,EL.out.2] at Nw;clear nu;go_wp2_with fail
       go_roundw
       case rel=>exact ⟨2,rfl,rfl,zh (.inr<| .inr ⟨rfl,Nw.out⟩)⟩
       case measure=>simp [intOf]
    ·have Nw:=zh hS;clear hS HJ;go_wp2_with fail
     go_roundw
     case rel=>exact ⟨1,rfl,rfl,zh (.inr<| .inl ⟨rfl,Nw.out⟩)⟩
     case measure=>simp [intOf]
  ·clear HI;have hix:∀ W,(Instr.index 199 (au #[Z I x,Z I y]) (Z I 1)).run Tryz.prog W= .ok (Z I y) W:=fun W=>by kernel_rfl
   obtain ⟨c4,l4⟩:=(zh hS.bb).cl;have Y7:=zh hS;clear hS;go_wp2_with fail
   clear hix c4 l4
   go_loopw [10,33] (fun fv jv wr=>∃ j:Int,fv= ak true∧jv= Z I j∧Hid ((j=0∧KX Q w (x,y) (z,t) wr 2)∨(j=1∧KX Q w (x,y) (z,t) wr 3)∨(j=2∧KX Q w (x,y) (z,t) wr 4))) (fun _ jv _=>2 - (intOf jv).toNat)
   case atStart=>exact ⟨0,rfl,rfl,zh (.inl ⟨rfl,Y7.out⟩)⟩
   case round =>
    clear Y7;obtain ⟨j,rfl,rfl,HJ⟩:=hrel
    rcases HJ.out with ⟨rfl,hS⟩|⟨rfl,hS⟩|⟨rfl,hS⟩
    ·clear HJ;obtain ⟨⟨l1,l2⟩,el⟩:∃ v,uR Q (x,y) (z,t) 2=v:=⟨_,rfl⟩;obtain ⟨⟨h1,h2⟩,eh⟩:∃ v,uT Q (x,y) (z,t) 2=v:=⟨_,rfl⟩;have NH:=zh (HL.out 2);have NI:=zh (HH.out 2);rw [el] at NH;rw [eh] at NI;have EL:=zh (And.intro el eh);have Nz:=zh hS;clear el eh hS;have Mr:∀ W,(Instr.index 199 (au #[Z I z,Z I t]) (Z I 0)).run Tryz.prog W= .ok (Z I z) W:=fun W=>by kernel_rfl
     go_wp2_with fail
     refine (NH.out _ Nz.out.bw).mono ?_;rintro e w1 ⟨rfl,hb⟩;have Ny:=zh (Nz.out.later hb);clear hb Mr NH Nz;go_wp2_with fail
     refine (NI.out _ Ny.out.bw).mono ?_;rintro e w2 ⟨rfl,hb⟩;have nu:=zh (Ny.out.later hb);clear hb NI Ny;cases l2
     ·obtain ⟨rfl,rfl,rfl⟩:s1=0∧s2=0∧s3=6:=by have h:=HS.out;rw [HN.out 2 zo (by rw [EL.out.1];exact .inl rfl)] at h;cases h;exact ⟨rfl,rfl,rfl⟩
      obtain ⟨c6,l6,f6⟩:=(zh nu.out.br).clf;go_wp2_with fail
      rw [Exit.noGoto_ret];exact bodyPost_ret (v:=aG #[au #[Z I 0,Z I 0],Z I 6]) (by have h6:=((nu.out.br.set 0 (Z I 0)).set 1 (Z I 0)).cell;have JK:=h6 0;have JJ:=h6 1;simp [results,Tryz.results100,go_sem,JK,JJ]) rfl ⟨rfl,(nu.out.bw.setCell (p:=⟨w.heap.size+1+1,0,none⟩) (by simp;omega) _).setCell (p:=⟨w.heap.size+1+1,1,none⟩) (by simp;omega) _⟩
     ·cases h2
      ·obtain ⟨rfl,rfl,rfl⟩:s1=0∧s2=0∧s3=6:=by have h:=HS.out;rw [HN.out 2 zo (by rw [EL.out.2];exact .inr rfl)] at h;cases h;exact ⟨rfl,rfl,rfl⟩
       obtain ⟨c6,l6,f6⟩:=(zh nu.out.br).clf;go_wp2_with fail
       rw [Exit.noGoto_ret];exact bodyPost_ret (v:=aG #[au #[Z I 0,Z I 0],Z I 6]) (by have h6:=((nu.out.br.set 0 (Z I 0)).set 1 (Z I 0)).cell;have JK:=h6 0;have JJ:=h6 1;simp [results,Tryz.results100,go_sem,JK,JJ]) rfl ⟨rfl,(nu.out.bw.setCell (p:=⟨w.heap.size+1+1,0,none⟩) (by simp;omega) _).setCell (p:=⟨w.heap.size+1+1,1,none⟩) (by simp;omega) _⟩
      ·obtain ⟨c8,l8,f8⟩:=(zh nu.out.bl).clf;obtain ⟨c9,l9,f9⟩:=(zh nu.out.bh).clf;unfold zC at c8 c9;have Nw:=zh (nu.out.step (k:=2) zo (by rw [EL.out.1]) (by rw [EL.out.2]));rw [EL.out.1,EL.out.2] at Nw;clear nu;go_wp2_with fail
       go_roundw
       case rel=>exact ⟨1,rfl,rfl,zh (.inr<| .inl ⟨rfl,Nw.out⟩)⟩
       case measure=>simp [intOf]
    ·clear HJ;obtain ⟨⟨l1,l2⟩,el⟩:∃ v,uR Q (x,y) (z,t) 3=v:=⟨_,rfl⟩;obtain ⟨⟨h1,h2⟩,eh⟩:∃ v,uT Q (x,y) (z,t) 3=v:=⟨_,rfl⟩;have NH:=zh (HL.out 3);have NI:=zh (HH.out 3);rw [el] at NH;rw [eh] at NI;have EL:=zh (And.intro el eh);have Nz:=zh hS;clear el eh hS;have Mr:∀ W,(Instr.index 199 (au #[Z I z,Z I t]) (Z I 1)).run Tryz.prog W= .ok (Z I t) W:=fun W=>by kernel_rfl
     go_wp2_with fail
     refine (NH.out _ Nz.out.bw).mono ?_;rintro e w1 ⟨rfl,hb⟩;have Ny:=zh (Nz.out.later hb);clear hb Mr NH Nz;go_wp2_with fail
     refine (NI.out _ Ny.out.bw).mono ?_;rintro e w2 ⟨rfl,hb⟩;have nu:=zh (Ny.out.later hb);clear hb NI Ny;cases l2
     ·obtain ⟨rfl,rfl,rfl⟩:s1=0∧s2=0∧s3=6:=by have h:=HS.out;rw [HN.out 3 zo (by rw [EL.out.1];exact .inl rfl)] at h;cases h;exact ⟨rfl,rfl,rfl⟩
      obtain ⟨c6,l6,f6⟩:=(zh nu.out.br).clf;go_wp2_with fail
      rw [Exit.noGoto_ret];exact bodyPost_ret (v:=aG #[au #[Z I 0,Z I 0],Z I 6]) (by have h6:=((nu.out.br.set 0 (Z I 0)).set 1 (Z I 0)).cell;have JK:=h6 0;have JJ:=h6 1;simp [results,Tryz.results100,go_sem,JK,JJ]) rfl ⟨rfl,(nu.out.bw.setCell (p:=⟨w.heap.size+1+1,0,none⟩) (by simp;omega) _).setCell (p:=⟨w.heap.size+1+1,1,none⟩) (by simp;omega) _⟩
     ·cases h2
      ·obtain ⟨rfl,rfl,rfl⟩:s1=0∧s2=0∧s3=6:=by have h:=HS.out;rw [HN.out 3 zo (by rw [EL.out.2];exact .inr rfl)] at h;cases h;exact ⟨rfl,rfl,rfl⟩
       obtain ⟨c6,l6,f6⟩:=(zh nu.out.br).clf;go_wp2_with fail
       rw [Exit.noGoto_ret];exact bodyPost_ret (v:=aG #[au #[Z I 0,Z I 0],Z I 6]) (by have h6:=((nu.out.br.set 0 (Z I 0)).set 1 (Z I 0)).cell;have JK:=h6 0;have JJ:=h6 1;simp [results,Tryz.results100,go_sem,JK,JJ]) rfl ⟨rfl,(nu.out.bw.setCell (p:=⟨w.heap.size+1+1,0,none⟩) (by simp;omega) _).setCell (p:=⟨w.heap.size+1+1,1,none⟩) (by simp;omega) _⟩
      ·obtain ⟨c8,l8,f8⟩:=(zh nu.out.bl).clf;obtain ⟨c9,l9,f9⟩:=(zh nu.out.bh).clf;unfold zC at c8 c9;have Nw:=zh (nu.out.step (k:=3) zo (by rw [EL.out.1]) (by rw [EL.out.2]));rw [EL.out.1,EL.out.2] at Nw;clear nu;go_wp2_with fail
       go_roundw
       case rel=>exact ⟨2,rfl,rfl,zh (.inr<| .inr ⟨rfl,Nw.out⟩)⟩
       case measure=>simp [intOf]
    ·have Nw:=zh hS;clear hS HJ;go_wp2_with fail
     go_roundw
     case rel=>exact ⟨2,rfl,rfl,zh (.inr<| .inr ⟨rfl,Nw.out⟩)⟩
     case measure=>simp [intOf]
  ·clear HI;have HP:=zh hS;clear hS;have HMn:=zh (fun W h=>Ua (w.heap.size+1+1+1) 4 [(uR Q (x,y) (z,t) 0).1,(uR Q (x,y) (z,t) 1).1,(uR Q (x,y) (z,t) 2).1,(uR Q (x,y) (z,t) 3).1] _ rfl (zC (uR Q (x,y) (z,t)) 4) 198 W h (OV _) zi);have HMx:=zh (fun W h=>uw (w.heap.size+1+1+1+1) 4 [(uT Q (x,y) (z,t) 0).1,(uT Q (x,y) (z,t) 1).1,(uT Q (x,y) (z,t) 2).1,(uT Q (x,y) (z,t) 3).1] _ rfl (zC (uT Q (x,y) (z,t)) 4) 198 W h (OV _) zi);have HMd:=zh (fun lo hi W=>jK lo hi W);obtain ⟨mn,emn⟩:∃ v,[(uR Q (x,y) (z,t) 0).1,(uR Q (x,y) (z,t) 1).1,(uR Q (x,y) (z,t) 2).1,(uR Q (x,y) (z,t) 3).1].foldl min (uR Q (x,y) (z,t) 0).1=v:=⟨_,rfl⟩;obtain ⟨mx,emx⟩:∃ v,[(uT Q (x,y) (z,t) 0).1,(uT Q (x,y) (z,t) 1).1,(uT Q (x,y) (z,t) 2).1,(uT Q (x,y) (z,t) 3).1].foldl max (uT Q (x,y) (z,t) 0).1=v:=⟨_,rfl⟩
   have hsp:gT mn mx=((s1,s2),s3):=by
    rw [← HS.out,← emn,← emx];unfold rO;rw [if_pos];unfold UG;rw [dX];intro q hq;have hq4:q<4:=by simpa using hq
    have:=HP.out.ok q hq4;simp [this.1,this.2]
   rw [emn] at HMn;rw [emx] at HMx;replace HMd:=zh (fun W=>HMd.out mn mx W);rw [hsp] at HMd;unfold d9 at HMd;clear emn emx hsp HL HH HN HS;go_wp2_with fail
   refine aJ [(.pure,0),(.pure,2),(.ext,1),(.ext,3),(.ext,4),(.pure,5),(.pure,6),(.fin,7),(.fin,8)] zk zk zR zP ?_;refine Wk.out ?_
   (iterate 2 refine zU ?_)
   refine fM rfl rfl (fun wa hba J hJ=>?_);go_simp;have za:Below wr.heap.size wr wa:=aF;refine (HMn.out _ (HP.out.bl.later za)).mono ?_;rintro e wb ⟨rfl,hb⟩;have zb:=Bt za hb;refine hJ _ _ hb ?_;clear hJ J hb hba za HMn;refine fM rfl rfl (fun wc hbc J hJ=>?_);go_simp;have zc:=Bt zb hbc;refine (HMx.out _ (HP.out.bh.later zc)).mono ?_;rintro e wd ⟨rfl,hb⟩;have zd:=Bt zc hb;refine hJ _ _ hb ?_;clear hJ J hb hbc zb zc HMx;refine fM rfl rfl (fun we hbe J hJ=>?_);go_simp;have ze:=Bt zd hbe;refine (HMd.out _).mono ?_;rintro e wf ⟨rfl,hb⟩;have zf:=Bt ze hb;refine hJ _ _ hb ?_;clear hJ J hb hbe zd ze HMd
   (iterate 2 refine zU ?_)
   refine rE [_,_] rfl (fun wg hbg=>?_);have nu:=zh (HP.out.later (Bt zf hbg));clear zf hbg HP;obtain ⟨c6,l6,f6⟩:=(zh nu.out.br).clf;go_wp2_with fail
   rw [Exit.noGoto_ret];exact bodyPost_ret (v:=aG #[au #[Z I s1,Z I s2],Z I s3]) (by have h6:=((nu.out.br.set 0 (Z I s1)).set 1 (Z I s2)).cell;have JK:=h6 0;have JJ:=h6 1;simp [results,Tryz.results100,go_sem,JK,JJ]) rfl ⟨rfl,(nu.out.bw.setCell (p:=⟨w.heap.size+1+1,0,none⟩) (by simp;omega) _).setCell (p:=⟨w.heap.size+1+1,1,none⟩) (by simp;omega) _⟩
end Go.Proofs.dH
